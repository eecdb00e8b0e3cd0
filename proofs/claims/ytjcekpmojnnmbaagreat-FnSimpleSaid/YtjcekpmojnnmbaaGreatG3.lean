/-
 What the functions compute, as functions on plain data, and that the program does compute it; written by program.
-/
import Derived.Test.YtjcekpmojnnmbaaGreatCode
import Derived.Test.YtjcekpmojnnmbaaGreatG1
namespace Go.Proofs.YtjcekpmojnnmbaaGreat.Ax
open Go
set_option maxRecDepth 100000
set_option maxHeartbeats 4000000
noncomputable def Ga (s0:ByteArray):(Int×SOp)→Option ((Int×SOp) ⊕ SOp):=fun (x4,x3)=>
 if x4<(↑s0.size:Int) then
 ask ((0:Int)≤x4∧x4<(↑s0.size:Int)) <|
 ask ((x3.Table).length+([IntKind.i64.wrap (IntKind.u8.wrap (Afu s0 x4-(48:Int)))]).length≤LIM) <|
 ask (InI (x4+(1:Int))) <|
 some (.inl (x4+(1:Int),{ Arity:=x3.Arity,Table:=x3.Table++[IntKind.i64.wrap (IntKind.u8.wrap (Afu s0 x4-(48:Int)))] }))
 else
 some (.inr x3)
def K6 (s0:ByteArray):(Int×SOp)→St:=fun s=>[(4,A.val (Af s.1)),(3,A.val ((rP true (Bh true)) s.2)),(2,A.val ((rP true (Bh true)) ({ Arity:=(0:Int),Table:=Aw Int }))),(0,A.val (V.str (s0)))]
def Q6 (_s0:ByteArray):SOp→Tgt
 | s=>((Ex.exit 0),[3,2],[(3,A.val ((rP true (Bh true)) s)),(2,A.val ((rP true (Bh true)) ({ Arity:=(0:Int),Table:=Aw Int })))])
theorem Abf {s0:ByteArray} (s:(Int×SOp)) (o:(Int×SOp) ⊕ SOp) (h:Ga s0 s=some o):vc Tryz.prog Qw (Dl [4,3,2,0] (K6 s0) (Q6 s0) o) (K6 s0 s):=by
 obtain ⟨x4,x3⟩:=s
 unfold Ga at h
 try dsimp only at h
 refine Br.od h (fun p1 h=> ?_) (fun p1 h=> ?_)
 ·refine Cells.lit rfl rfl<|Ask.o h fun p2 h=>BslQ.o Af ([IntKind.i64.wrap (IntKind.u8.wrap (Afu s0 x4-(48:Int)))]) (by exact fun _=>⟨rfl,rfl⟩) (by first | rfl | (simp only [Aa,V.fz,fzL,V.up,upL,Ab,Ac,Ad,slr,List.cons_append,List.nil_append];done) | simp [Aa,V.fz,fzL,V.up,upL,Ab,Ac,Ad,slr])<|NoOwn.o (fun _=>rfl)<|Kid.lit rfl rfl<|Kid.lit rfl rfl<|SetKids.lit rfl<|AppQ.o (m:=1) Af (by exact fun _=>⟨rfl,rfl⟩) (x3.Table) ([IntKind.i64.wrap (IntKind.u8.wrap (Afu s0 x4-(48:Int)))]) (by rfl) (by rfl) h fun h=>SetKids.lit rfl<|Ask.o h fun p3 h=> ?_
  cases h;exact ⟨rfl,rfl⟩
 cases h;exact ⟨rfl,rfl⟩
noncomputable def A8 (s0:ByteArray):Option SOp:=
 (Al (Ga s0) ((0:Int),{ Arity:=(2:Int),Table:=Aw Int })).bind fun q4_3=>
 some q4_3
theorem Bk {s0:ByteArray} {v:SOp} (h:A8 s0=some v):Ret Tryz.prog Bf [V.str s0] ((Bh true) v):=by
 refine A5 Ahn (Nat.le_of_ble_eq_true rfl) ?_
 unfold A8 at h
 refine SetKids.lit rfl<|LoopQ.o [4,3,2,0] (K6 s0) (Q6 s0) h (fun s o h=>Abf s o h) (by rfl) (fun _=>rfl) ?_
 rintro q4_3 h
 try dsimp only at h
 refine Cells.lit rfl rfl<|SetKids.lit rfl ?_
 cases h;exact (by rfl)
noncomputable def F2 (n0:Int):(Int×SOp)→Option ((Int×SOp) ⊕ SOp):=fun (x4,x3)=>
 ask (InI (n0*n0)) <|
 ask (InI (n0*n0*n0)) <|
 if x4<n0*n0*n0 then
 ask (InI (n0*n0)) <|
 ask (n0*n0≠(0:Int)∧InI (x4.tdiv (n0*n0))) <|
 ask (InI (x4.tdiv (n0*n0)+n0)) <|
 ask (n0≠(0:Int)∧InI (x4.tdiv n0)) <|
 ask (n0≠(0:Int)) <|
 ask (InI (x4.tdiv (n0*n0)+n0-(x4.tdiv n0).tmod n0)) <|
 ask (n0≠(0:Int)) <|
 ask (InI (x4.tdiv (n0*n0)+n0-(x4.tdiv n0).tmod n0+x4.tmod n0)) <|
 ask (n0≠(0:Int)) <|
 ask ((x3.Table).length+([(x4.tdiv (n0*n0)+n0-(x4.tdiv n0).tmod n0+x4.tmod n0).tmod n0]).length≤LIM) <|
 ask (InI (x4+(1:Int))) <|
 some (.inl (x4+(1:Int),{ Arity:=x3.Arity,Table:=x3.Table++[(x4.tdiv (n0*n0)+n0-(x4.tdiv n0).tmod n0+x4.tmod n0).tmod n0] }))
 else
 some (.inr x3)
def Kq (n0:Int):(Int×SOp)→St:=fun s=>[(4,A.val (Af s.1)),(3,A.val ((rP true (Bh true)) s.2)),(2,A.val ((rP true (Bh true)) ({ Arity:=(0:Int),Table:=Aw Int }))),(0,A.val (Af (n0)))]
def Q9 (_n0:Int):SOp→Tgt
 | s=>((Ex.exit 0),[3,2],[(3,A.val ((rP true (Bh true)) s)),(2,A.val ((rP true (Bh true)) ({ Arity:=(0:Int),Table:=Aw Int })))])
theorem Abj {n0:Int} (s:(Int×SOp)) (o:(Int×SOp) ⊕ SOp) (h:F2 n0 s=some o):vc Tryz.prog P5 (Dl [4,3,2,0] (Kq n0) (Q9 n0) o) (Kq n0 s):=by
 obtain ⟨x4,x3⟩:=s
 unfold F2 at h
 try dsimp only at h
 refine Ask.o h fun p1 h=>Ask.o h fun p2 h=>Br.od h (fun p3 h=> ?_) (fun p3 h=> ?_)
 ·refine Cells.lit rfl rfl<|Ask.o h fun p4 h=>Ask.o h fun p5 h=>Ask.o h fun p6 h=>Ask.o h fun p7 h=>Ask.o h fun p8 h=>Ask.o h fun p9 h=>Ask.o h fun p10 h=>Ask.o h fun p11 h=>Ask.o h fun p12 h=>BslQ.o Af ([(x4.tdiv (n0*n0)+n0-(x4.tdiv n0).tmod n0+x4.tmod n0).tmod n0]) (by exact fun _=>⟨rfl,rfl⟩) (by first | rfl | (simp only [Aa,V.fz,fzL,V.up,upL,Ab,Ac,Ad,slr,List.cons_append,List.nil_append];done) | simp [Aa,V.fz,fzL,V.up,upL,Ab,Ac,Ad,slr])<|NoOwn.o (fun _=>rfl)<|Kid.lit rfl rfl<|Kid.lit rfl rfl<|SetKids.lit rfl<|AppQ.o (m:=1) Af (by exact fun _=>⟨rfl,rfl⟩) (x3.Table) ([(x4.tdiv (n0*n0)+n0-(x4.tdiv n0).tmod n0+x4.tmod n0).tmod n0]) (by rfl) (by rfl) h fun h=>SetKids.lit rfl<|Ask.o h fun p13 h=> ?_
  cases h;exact ⟨rfl,rfl⟩
 cases h;exact ⟨rfl,rfl⟩
noncomputable def Gj (n0:Int):Option SOp:=
 (Al (F2 n0) ((0:Int),{ Arity:=(3:Int),Table:=Aw Int })).bind fun q14_3=>
 some q14_3
theorem Wq {n0:Int} {v:SOp} (h:Gj n0=some v):Ret Tryz.prog Ko [Af n0] ((Bh true) v):=by
 refine A5 Agm (Nat.le_of_ble_eq_true rfl) ?_
 unfold Gj at h
 refine SetKids.lit rfl<|LoopQ.o [4,3,2,0] (Kq n0) (Q9 n0) h (fun s o h=>Abj s o h) (by rfl) (fun _=>rfl) ?_
 rintro q14_3 h
 try dsimp only at h
 refine Cells.lit rfl rfl<|SetKids.lit rfl ?_
 cases h;exact (by rfl)
noncomputable def Fg (p0:List Int) (q5_2:Int) (q5_1:Int):(Int×(List Int))→Option ((Int×(List Int)) ⊕ (List Int)):=fun (x26,x40)=>
 if x26<(↑p0.length:Int) then
 ask ((0:Int)≤x26∧x26<(↑x40.length:Int)) <|
 if nth x40 x26.toNat=q5_2 then
 ask ((0:Int)≤x26∧x26<(↑x40.length:Int)) <|
 ask (InI (x26+(1:Int))) <|
 some (.inl (x26+(1:Int),x40.set x26.toNat q5_1))
 else
 ask (InI (x26+(1:Int))) <|
 some (.inl (x26+(1:Int),x40))
 else
 some (.inr x40)
def Ou (p0:List Int) (q5_2:Int) (q5_1:Int):(Int×(List Int))→St:=fun s=>[(26,A.val (Af s.1)),(25,A.val (Af ((↑p0.length:Int)))),(2,A.val (Af (q5_2))),(1,A.val (Af (q5_1))),(0,A.ref 40 []),(40,A.val ((slr true 1 Af) s.2))]
def Wd (_p0:List Int) (_q5_2:Int) (_q5_1:Int):(List Int)→Tgt
 | s=>((Ex.exit 0),[40],[(40,A.val ((slr true 1 Af) s))])
theorem Ahi {p0:List Int} {q5_2:Int} {q5_1:Int} (s:(Int×(List Int))) (o:(Int×(List Int)) ⊕ (List Int)) (h:Fg p0 q5_2 q5_1 s=some o):vc Tryz.prog Wt (Dl [26,25,2,1,0,40] (Ou p0 q5_2 q5_1) (Wd p0 q5_2 q5_1) o) (Ou p0 q5_2 q5_1 s):=by
 obtain ⟨x26,x40⟩:=s
 unfold Fg at h
 try dsimp only at h
 refine Br.od h (fun p6 h=> ?_) (fun p6 h=> ?_)
 ·refine Len.map<|Ask.o h fun p7 h=>Cells.one (fun _=>⟨rfl,rfl⟩) (by first | omega | (simp [Ap] at * <;> omega))<|Br.oe h (fun p8 h=> ?_) (fun p8 h=> ?_)
  ·refine Len.map<|Ask.o h fun p9 h=>SetKids.one (fun _=>⟨rfl,rfl⟩) (q5_1) (by rfl) (by first | omega | (simp [Ap] at * <;> omega))<|Ask.o h fun p10 h=> ?_
   cases h;exact ⟨rfl,rfl⟩
  refine Ask.o h fun p11 h=> ?_
  cases h;exact ⟨rfl,rfl⟩
 cases h;exact ⟨rfl,rfl⟩
noncomputable def Ht (p0:(List Int)) (x0:Int) (y0:Int):Option (Bool×(List Int)):=
 ask ((0:Int)≤x0∧x0<(↑p0.length:Int)) <|
 ask ((0:Int)≤y0∧y0<(↑p0.length:Int)) <|
 if nth p0 x0.toNat=nth p0 y0.toNat then
 some (false,p0)
 else
 ((if nth p0 x0.toNat>nth p0 y0.toNat then
 some (nth p0 x0.toNat,nth p0 y0.toNat)
 else
 some (nth p0 y0.toNat,nth p0 x0.toNat):Option (Int×Int))).bind fun (q5_2,q5_1)=>
 (Al (Fg p0 q5_2 q5_1) ((0:Int),p0)).bind fun q12_40=>
 some (true,q12_40)
theorem V5 {p0:(List Int)} {x0:Int} {y0:Int} {v:(Bool×(List Int))} (h:Ht p0 x0 y0=some v):Zi Tryz.prog L4 [(slr true 1 Af) p0,Af x0,Af y0] (V.bool v.1) 0 ((slr true 1 Af) v.2):=by
 refine Wc An9 (Nat.le_of_ble_eq_true rfl) ?_
 unfold Ht at h
 refine Len.map<|Ask.o h fun p1 h=>Cells.one (fun _=>⟨rfl,rfl⟩) (by first | omega | (simp [Ap] at * <;> omega))<|Len.map<|Ask.o h fun p2 h=>Cells.one (fun _=>⟨rfl,rfl⟩) (by first | omega | (simp [Ap] at * <;> omega))<|Br.oe h (fun p3 h=> ?_) (fun p3 h=> ?_)
 ·cases h;exact ⟨(by rfl),(by rfl)⟩
 refine CutQ.o (fun t:(Int×Int)=>match t with | s=>(Ex.normal,[2,1,0,40],[(2,A.val (Af s.1)),(1,A.val (Af s.2)),(0,A.ref 40 []),(40,A.val ((slr true 1 Af) (p0)))])) h ?_ ?_
 ·intro t h
  refine Br.od h (fun p4 h=> ?_) (fun p4 h=> ?_)
  ·cases h;exact ⟨rfl,rfl⟩
  cases h;exact ⟨rfl,rfl⟩
 rintro ⟨q5_2,q5_1⟩ h
 try dsimp only at h
 refine Len.map<|LoopQ.o [26,25,2,1,0,40] (Ou p0 q5_2 q5_1) (Wd p0 q5_2 q5_1) h (fun s o h=>Ahi s o h) (by rfl) (fun _=>rfl) ?_
 rintro q12_40 h
 try dsimp only at h
 cases h;exact ⟨(by rfl),(by rfl)⟩
noncomputable def Do (p0:List Int):(Int×Int)→Option ((Int×Int) ⊕ Int):=fun (x8,x3)=>
 if x8<(↑p0.length:Int) then
 ask ((0:Int)≤x8∧x8<(↑p0.length:Int)) <|
 if nth p0 x8.toNat=x8 then
 ask (InI (x3+(1:Int))) <|
 ask (InI (x8+(1:Int))) <|
 some (.inl (x8+(1:Int),x3+(1:Int)))
 else
 ask (InI (x8+(1:Int))) <|
 some (.inl (x8+(1:Int),x3))
 else
 some (.inr x3)
def Iw (p0:List Int):(Int×Int)→St:=fun s=>[(8,A.val (Af s.1)),(7,A.val (Af ((↑p0.length:Int)))),(6,A.val ((slr false 1 Af) (p0))),(3,A.val (Af s.2))]
def Nq (_p0:List Int):Int→Tgt
 | s=>((Ex.exit 0),[3],[(3,A.val (Af s))])
theorem Xl {p0:List Int} (s:(Int×Int)) (o:(Int×Int) ⊕ Int) (h:Do p0 s=some o):vc Tryz.prog Nr (Dl [8,7,6,3] (Iw p0) (Nq p0) o) (Iw p0 s):=by
 obtain ⟨x8,x3⟩:=s
 unfold Do at h
 try dsimp only at h
 refine Br.od h (fun p1 h=> ?_) (fun p1 h=> ?_)
 ·refine Len.map<|Ask.o h fun p2 h=>Elem.o (by first | omega | (simp [Ap] at * <;> omega))<|Br.oe h (fun p3 h=> ?_) (fun p3 h=> ?_)
  ·refine Ask.o h fun p4 h=>Ask.o h fun p5 h=> ?_
   cases h;exact ⟨rfl,rfl⟩
  refine Ask.o h fun p6 h=> ?_
  cases h;exact ⟨rfl,rfl⟩
 cases h;exact ⟨rfl,rfl⟩
noncomputable def Fc (p0:(List Int)):Option Int:=
 (Al (Do p0) ((0:Int),(0:Int))).bind fun q7_3=>
 some q7_3
theorem Sr {p0:(List Int)} {v:Int} (h:Fc p0=some v):Ret Tryz.prog Il [(slr false 1 Af) p0] (Af v):=by
 refine A5 Adr (Nat.le_of_ble_eq_true rfl) ?_
 unfold Fc at h
 refine Len.map<|LoopQ.o [8,7,6,3] (Iw p0) (Nq p0) h (fun s o h=>Xl s o h) (by rfl) (fun _=>rfl) ?_
 rintro q7_3 h
 try dsimp only at h
 cases h;exact (by rfl)
noncomputable def Fa (p0:List Int):(Int×Int)→Option ((Int×Int) ⊕ Int):=fun (x4,x3)=>
 if x4<(↑p0.length:Int) then
 ask ((0:Int)≤x4∧x4<(↑p0.length:Int)) <|
 if nth p0 x4.toNat=x4 then
 ask (InI (x3+(1:Int))) <|
 ask (InI (x4+(1:Int))) <|
 some (.inl (x4+(1:Int),x3+(1:Int)))
 else
 ask (InI (x4+(1:Int))) <|
 some (.inl (x4+(1:Int),x3))
 else
 some (.inr x3)
def Me (p0:List Int):(Int×Int)→St:=fun s=>[(4,A.val (Af s.1)),(3,A.val (Af s.2)),(0,A.val ((slr false 1 Af) (p0)))]
def Sq (_p0:List Int):Int→Tgt
 | s=>((Ex.exit 0),[3],[(3,A.val (Af s))])
theorem Adw {p0:List Int} (s:(Int×Int)) (o:(Int×Int) ⊕ Int) (h:Fa p0 s=some o):vc Tryz.prog Sx (Dl [4,3,0] (Me p0) (Sq p0) o) (Me p0 s):=by
 obtain ⟨x4,x3⟩:=s
 unfold Fa at h
 try dsimp only at h
 refine Len.map<|Br.od h (fun p1 h=> ?_) (fun p1 h=> ?_)
 ·refine Len.map<|Ask.o h fun p2 h=>Elem.o (by first | omega | (simp [Ap] at * <;> omega))<|Br.oe h (fun p3 h=> ?_) (fun p3 h=> ?_)
  ·refine Ask.o h fun p4 h=>Ask.o h fun p5 h=> ?_
   cases h;exact ⟨rfl,rfl⟩
  refine Ask.o h fun p6 h=> ?_
  cases h;exact ⟨rfl,rfl⟩
 cases h;exact ⟨rfl,rfl⟩
noncomputable def E2 (p0:(List Int)):Option Int:=
 (Al (Fa p0) ((0:Int),(0:Int))).bind fun q7_3=>
 some q7_3
theorem L6 {p0:(List Int)} {v:Int} (h:E2 p0=some v):Ret Tryz.prog Hi [(slr false 1 Af) p0] (Af v):=by
 refine A5 Akf (Nat.le_of_ble_eq_true rfl) ?_
 unfold E2 at h
 refine LoopQ.o [4,3,0] (Me p0) (Sq p0) h (fun s o h=>Adw s o h) (by rfl) (fun _=>rfl) ?_
 rintro q7_3 h
 try dsimp only at h
 cases h;exact (by rfl)
noncomputable def Ei (a0:List Int) (b0:List Int):Int→Option (Int ⊕ (Bool ⊕ Unit)):=fun x5=>
 if x5<(↑a0.length:Int) then
 ask ((0:Int)≤x5∧x5<(↑a0.length:Int)) <|
 ask ((0:Int)≤x5∧x5<(↑b0.length:Int)) <|
 if nth a0 x5.toNat≠nth b0 x5.toNat then
 ask ((0:Int)≤x5∧x5<(↑a0.length:Int)) <|
 ask ((0:Int)≤x5∧x5<(↑b0.length:Int)) <|
 some (.inr (.inl (decide (nth a0 x5.toNat<nth b0 x5.toNat))))
 else
 ask (InI (x5+(1:Int))) <|
 some (.inl (x5+(1:Int)))
 else
 some (.inr (.inr ()))
def Mp (a0:List Int) (b0:List Int):Int→St:=fun s=>[(5,A.val (Af s)),(0,A.val ((slr false 1 Af) (a0))),(1,A.val ((slr false 1 Af) (b0)))]
def Uo (_a0:List Int) (_b0:List Int):(Bool ⊕ Unit)→Tgt
 | (.inl s)=>(Ex.ret,[4],[(4,A.val (V.bool s))])
 | (.inr _s)=>((Ex.exit 0),[],[])
theorem Aer {a0:List Int} {b0:List Int} (x5:Int) (o:Int ⊕ (Bool ⊕ Unit)) (h:Ei a0 b0 x5=some o):vc Tryz.prog Vd (Dl [5,0,1] (Mp a0 b0) (Uo a0 b0) o) (Mp a0 b0 x5):=by
 unfold Ei at h
 try dsimp only at h
 refine Len.map<|Br.od h (fun p1 h=> ?_) (fun p1 h=> ?_)
 ·refine Len.map<|Ask.o h fun p2 h=>Elem.o (by first | omega | (simp [Ap] at * <;> omega))<|Len.map<|Ask.o h fun p3 h=>Elem.o (by first | omega | (simp [Ap] at * <;> omega))<|Br.on h (fun p4 h=> ?_) (fun p4 h=> ?_)
  ·refine Len.map<|Ask.o h fun p5 h=>Elem.o (by first | omega | (simp [Ap] at * <;> omega))<|Len.map<|Ask.o h fun p6 h=>Elem.o (by first | omega | (simp [Ap] at * <;> omega)) ?_
   cases h;exact ⟨rfl,rfl⟩
  refine Ask.o h fun p7 h=> ?_
  cases h;exact ⟨rfl,rfl⟩
 cases h;exact ⟨rfl,rfl⟩
noncomputable def J6 (a0:(List Int)) (b0:(List Int)):Option Bool:=
 (Al (Ei a0 b0) (0:Int)).bind fun t=>match t with
 | (.inl q8_4)=>(some q8_4)
 | (.inr _)=>(some false)
theorem Al4 {a0:(List Int)} {b0:(List Int)} {v:Bool} (h:J6 a0 b0=some v):Ret Tryz.prog Tw [(slr false 1 Af) a0,(slr false 1 Af) b0] (V.bool v):=by
 refine A5 Alw (Nat.le_of_ble_eq_true rfl) ?_
 unfold J6 at h
 refine LoopQ.o [5,0,1] (Mp a0 b0) (Uo a0 b0) h (fun s o h=>Aer s o h) (by rfl) (by rintro (_ | _)<;>rfl) ?_
 rintro (q8_4 | ⟨⟩) h
 ·try dsimp only at h
  cases h;exact (by rfl)
 try dsimp only at h
 cases h;exact (by rfl)
noncomputable def Kh (a0:Int) (b0:Int):Option Int:=
 if a0>b0 then
 some a0
 else
 some b0
theorem Ak4 {a0:Int} {b0:Int} {v:Int} (h:Kh a0 b0=some v):Ret Tryz.prog To [Af a0,Af b0] (Af v):=by
 refine A5 Amh (Nat.le_of_ble_eq_true rfl) ?_
 unfold Kh at h
 refine Br.od h (fun p1 h=> ?_) (fun p1 h=> ?_)
 ·cases h;exact (by rfl)
 cases h;exact (by rfl)
noncomputable def I8 (a0:Int) (b0:Int):Option Int:=
 if a0<b0 then
 some a0
 else
 some b0
theorem Akd {a0:Int} {b0:Int} {v:Int} (h:I8 a0 b0=some v):Ret Tryz.prog Q3 [Af a0,Af b0] (Af v):=by
 refine A5 Akb (Nat.le_of_ble_eq_true rfl) ?_
 unfold I8 at h
 refine Br.od h (fun p1 h=> ?_) (fun p1 h=> ?_)
 ·cases h;exact (by rfl)
 cases h;exact (by rfl)
noncomputable def D3 (a0:SAlgebra) (_op0:Int) (args0:List Int):(Int×Int)→Option ((Int×Int) ⊕ Int):=fun (x8,x7)=>
 if x8<(↑args0.length:Int) then
 ask (InI (x7*a0.Size)) <|
 ask ((0:Int)≤x8∧x8<(↑args0.length:Int)) <|
 ask (InI (x7*a0.Size+nth args0 x8.toNat)) <|
 ask (InI (x8+(1:Int))) <|
 some (.inl (x8+(1:Int),x7*a0.Size+nth args0 x8.toNat))
 else
 some (.inr x7)
def L5 (a0:SAlgebra) (op0:Int) (args0:List Int):(Int×Int)→St:=fun s=>[(8,A.val (Af s.1)),(7,A.val (Af s.2)),(3,A.val ((rP true (Ai false)) (a0))),(1,A.val (Af (op0))),(2,A.val ((slr false 1 Af) (args0)))]
def Sc (a0:SAlgebra) (op0:Int) (_args0:List Int):Int→Tgt
 | s=>((Ex.exit 0),[7,3,1],[(7,A.val (Af s)),(3,A.val ((rP true (Ai false)) (a0))),(1,A.val (Af (op0)))])
theorem Ab4 {a0:SAlgebra} {op0:Int} {args0:List Int} (s:(Int×Int)) (o:(Int×Int) ⊕ Int) (h:D3 a0 op0 args0 s=some o):vc Tryz.prog Sh (Dl [8,7,3,1,2] (L5 a0 op0 args0) (Sc a0 op0 args0) o) (L5 a0 op0 args0 s):=by
 obtain ⟨x8,x7⟩:=s
 unfold D3 at h
 try dsimp only at h
 refine Len.map<|Br.od h (fun p1 h=> ?_) (fun p1 h=> ?_)
 ·refine Cells.lit rfl rfl<|Ask.o h fun p2 h=>Len.map<|Ask.o h fun p3 h=>Elem.o (by first | omega | (simp [Ap] at * <;> omega))<|Ask.o h fun p4 h=>Ask.o h fun p5 h=> ?_
  cases h;exact ⟨rfl,rfl⟩
 cases h;exact ⟨rfl,rfl⟩
noncomputable def It (a0:SAlgebra) (op0:Int) (args0:(List Int)):Option Int:=
 (Al (D3 a0 op0 args0) ((0:Int),(0:Int))).bind fun q6_7=>
 ask ((0:Int)≤op0∧op0<(↑a0.Ops.length:Int)) <|
 ask ((0:Int)≤q6_7∧q6_7<(↑(nth a0.Ops op0.toNat).Table.length:Int)) <|
 some (nth (nth a0.Ops op0.toNat).Table q6_7.toNat)
theorem Ajj {a0:SAlgebra} {op0:Int} {args0:(List Int)} {v:Int} (h:It a0 op0 args0=some v):Ret Tryz.prog Q4 [(Ai false) a0,Af op0,(slr false 1 Af) args0] (Af v):=by
 refine A5 Akj (Nat.le_of_ble_eq_true rfl) ?_
 unfold It at h
 refine LoopQ.o [8,7,3,1,2] (L5 a0 op0 args0) (Sc a0 op0 args0) h (fun s o h=>Ab4 s o h) (by rfl) (fun _=>rfl) ?_
 rintro q6_7 h
 try dsimp only at h
 refine Cells.lit rfl rfl<|Len.map<|Ask.o h fun p7 h=>Elem.o (by first | omega | (simp [Ap] at * <;> omega))<|Len.map<|Ask.o h fun p8 h=>Elem.o (by first | omega | (simp [Ap] at * <;> omega)) ?_
 cases h;exact (by rfl)
noncomputable def Eh (a0:List (List Int)) (b0:List (List Int)):Int→Option (Int ⊕ (Unit ⊕ Unit)):=fun x5=>
 if x5<(↑a0.length:Int) then
 ask ((0:Int)≤x5∧x5<(↑a0.length:Int)) <|
 ask ((0:Int)≤x5∧x5<(↑b0.length:Int)) <|
 (Es (nth a0 x5.toNat) (nth b0 x5.toNat)).bind fun r5=>
 if (r5)=true then
 ask (InI (x5+(1:Int))) <|
 some (.inl (x5+(1:Int)))
 else
 some (.inr (.inl ()))
 else
 some (.inr (.inr ()))
def My (a0:List (List Int)) (b0:List (List Int)):Int→St:=fun s=>[(5,A.val (Af s)),(0,A.val ((slr false 1 (slr false 1 Af)) (a0))),(1,A.val ((slr false 1 (slr false 1 Af)) (b0)))]
def Va (_a0:List (List Int)) (_b0:List (List Int)):(Unit ⊕ Unit)→Tgt
 | (.inl _s)=>(Ex.ret,[4],[(4,A.val (V.bool (false)))])
 | (.inr _s)=>((Ex.exit 0),[],[])
theorem Aff {a0:List (List Int)} {b0:List (List Int)} (x5:Int) (o:Int ⊕ (Unit ⊕ Unit)) (h:Eh a0 b0 x5=some o):vc Tryz.prog Uc (Dl [5,0,1] (My a0 b0) (Va a0 b0) o) (My a0 b0 x5):=by
 unfold Eh at h
 try dsimp only at h
 refine Len.map<|Br.od h (fun p2 h=> ?_) (fun p2 h=> ?_)
 ·refine Len.map<|Ask.o h fun p3 h=>Elem.o (by first | omega | (simp [Ap] at * <;> omega))<|Len.map<|Ask.o h fun p4 h=>Elem.o (by first | omega | (simp [Ap] at * <;> omega))<|CallQ.o V.bool (by rfl) h (fun r h=>Vl h) (fun r5 h=> ?_)
  refine Br.flip<|Br.ob h (fun p6 h=> ?_) (fun p6 h=> ?_)
  ·refine Ask.o h fun p7 h=> ?_
   cases h;exact ⟨rfl,rfl⟩
  cases h;exact ⟨rfl,rfl⟩
 cases h;exact ⟨rfl,rfl⟩
noncomputable def H6 (a0:(List (List Int))) (b0:(List (List Int))):Option Bool:=
 if (↑a0.length:Int)≠(↑b0.length:Int) then
 some false
 else
 (Al (Eh a0 b0) (0:Int)).bind fun t=>match t with
 | (.inl _)=>(some false)
 | (.inr _)=>(some true)
theorem Z6 {a0:(List (List Int))} {b0:(List (List Int))} {v:Bool} (h:H6 a0 b0=some v):Ret Tryz.prog Nj [(slr false 1 (slr false 1 Af)) a0,(slr false 1 (slr false 1 Af)) b0] (V.bool v):=by
 refine A5 Ala (Nat.le_of_ble_eq_true rfl) ?_
 unfold H6 at h
 refine Len.map<|Len.map<|Br.on h (fun p1 h=> ?_) (fun p1 h=> ?_)
 ·cases h;exact (by rfl)
 refine LoopQ.o [5,0,1] (My a0 b0) (Va a0 b0) h (fun s o h=>Aff s o h) (by rfl) (by rintro (_ | _)<;>rfl) ?_
 rintro (⟨⟩ | ⟨⟩) h
 ·try dsimp only at h
  cases h;exact (by rfl)
 try dsimp only at h
 cases h;exact (by rfl)
noncomputable def Hx (n0:Int) (p0:(List Int)):Option ((List (List Int))×Bool):=
 (H7 (n0)).bind fun r1=>
 if (r1)=true then
 (Di (n0) (p0)).bind fun r3=>
 if (r3)=true then
 (Hy (p0)).bind fun r5=>
 some (r5,true)
 else
 some (Aw (List Int),false)
 else
 some (Aw (List Int),false)
theorem Agz {n0:Int} {p0:(List Int)} {v:((List (List Int))×Bool)} (h:Hx n0 p0=some v):Ret Tryz.prog Oi [Af n0,(slr false 1 Af) p0] ((fun r=>V.tup [(slr true 1 (slr true 1 Af)) r.1,V.bool r.2]) v):=by
 refine A5 Ag4 (Nat.le_of_ble_eq_true rfl) ?_
 unfold Hx at h
 refine CallQ.o V.bool (by rfl) h (fun r h=>Z9 h) (fun r1 h=> ?_)
 refine Br.flip<|Br.ob h (fun p2 h=> ?_) (fun p2 h=> ?_)
 ·refine Br.no<|Br.no<|CallQ.o V.bool (by rfl) h (fun r h=>Ks h) (fun r3 h=> ?_)
  refine Br.no<|Br.no<|Br.flip<|Br.ob h (fun p4 h=> ?_) (fun p4 h=> ?_)
  ·refine CallQ.o (slr true 1 (slr true 1 Af)) (by rfl) h (fun r h=>Ag0 h) (fun r5 h=> ?_)
   cases h;exact (by rfl)
  refine BslQ.o (slr true 1 Af) (Aw (List Int)) (by exact fun _=>⟨rfl,rfl⟩) (by first | rfl | (simp only [Aa,V.fz,fzL,V.up,upL,Ab,Ac,Ad,slr,List.cons_append,List.nil_append];done) | simp [Aa,V.fz,fzL,V.up,upL,Ab,Ac,Ad,slr]) ?_
  cases h;exact (by rfl)
 refine Br.yes<|Br.yes<|Br.yes<|Br.yes<|Br.yes<|BslQ.o (slr true 1 Af) (Aw (List Int)) (by exact fun _=>⟨rfl,rfl⟩) (by first | rfl | (simp only [Aa,V.fz,fzL,V.up,upL,Ab,Ac,Ad,slr,List.cons_append,List.nil_append];done) | simp [Aa,V.fz,fzL,V.up,upL,Ab,Ac,Ad,slr]) ?_
 cases h;exact (by rfl)
noncomputable def B0 (c0:Sl1Cur) (n0:Int):Option (Int×Sl1Cur):=
 if n0≤(1:Int) then
 some ((0:Int),c0)
 else
 (E6 (c0)).bind fun (r2,u3)=>
 if n0>(200:Int) then
 ask (InI (r2*(256:Int))) <|
 (E6 (u3)).bind fun (r6,u7)=>
 ask (InI (r2*(256:Int)+r6)) <|
 ask (n0≠(0:Int)) <|
 some ((r2*(256:Int)+r6).tmod n0,u7)
 else
 ask (n0≠(0:Int)) <|
 some (r2.tmod n0,u3)
theorem Cv {c0:Sl1Cur} {n0:Int} {v:(Int×Sl1Cur)} (h:B0 c0 n0=some v):Zi Tryz.prog B5 [(rP true (Au false)) c0,Af n0] (Af v.1) 0 ((rP true (Au false)) v.2):=by
 refine Wc Ab2 (Nat.le_of_ble_eq_true rfl) ?_
 unfold B0 at h
 refine Br.od h (fun p1 h=> ?_) (fun p1 h=> ?_)
 ·cases h;exact ⟨(by rfl),(by rfl)⟩
 refine CallQ.io Af (rP true (Au false)) (by rfl) rfl (fun _=>rfl) (fun _=>⟨rfl,rfl⟩) rfl h (fun r h=>S6 h) (fun r2 u3 h=> ?_)
 refine Br.od h (fun p4 h=> ?_) (fun p4 h=> ?_)
 ·refine Ask.o h fun p5 h=>CallQ.io Af (rP true (Au false)) (by rfl) rfl (fun _=>rfl) (fun _=>⟨rfl,rfl⟩) rfl h (fun r h=>S6 h) (fun r6 u7 h=> ?_)
  refine Ask.o h fun p8 h=>Ask.o h fun p9 h=> ?_
  cases h;exact ⟨(by rfl),(by rfl)⟩
 refine Ask.o h fun p10 h=> ?_
 cases h;exact ⟨(by rfl),(by rfl)⟩
end Go.Proofs.YtjcekpmojnnmbaaGreat.Ax
