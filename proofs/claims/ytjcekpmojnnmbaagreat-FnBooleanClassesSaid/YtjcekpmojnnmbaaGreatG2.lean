/-
 What the functions compute, as functions on plain data, and that the program does compute it; written by program.
-/
import Derived.Test.YtjcekpmojnnmbaaGreatCode
namespace Go.Proofs.YtjcekpmojnnmbaaGreat.Ax
open Go
set_option maxRecDepth 100000
set_option maxHeartbeats 4000000
noncomputable def Ed (list0:List Int) (n0:Int):Int→Option (Int ⊕ (Unit ⊕ Unit)):=fun x9=>
 if x9<(↑list0.length:Int) then
 ask ((0:Int)≤x9∧x9<(↑list0.length:Int)) <|
 if nth list0 x9.toNat<(0:Int) then
 some (.inr (.inl ()))
 else
 if nth list0 x9.toNat≥n0 then
 some (.inr (.inl ()))
 else
 ask (InI (x9+(1:Int))) <|
 some (.inl (x9+(1:Int)))
 else
 some (.inr (.inr ()))
def Nb (list0:List Int) (n0:Int):Int→St:=fun s=>[(9,A.val (Ae s)),(8,A.val (Ae ((↑list0.length:Int)))),(7,A.val ((slr false 1 Ae) (list0))),(1,A.val (Ae (n0)))]
def T0 (_list0:List Int) (_n0:Int):(Unit ⊕ Unit)→Tgt
 | (.inl _s)=>(Ex.ret,[4],[(4,A.val (V.bool (false)))])
 | (.inr _s)=>((Ex.exit 0),[],[])
theorem Afg {list0:List Int} {n0:Int} (x9:Int) (o:Int ⊕ (Unit ⊕ Unit)) (h:Ed list0 n0 x9=some o):vc Tryz.prog Uy (Dc [9,8,7,1] (Nb list0 n0) (T0 list0 n0) o) (Nb list0 n0 x9):=by
 unfold Ed at h
 try dsimp only at h
 conv=>whnf
 refine Br.od h (fun p1 h=> ?_) (fun p1 h=> ?_)
 ·conv=>whnf
  refine Len.map ?_
  conv=>whnf
  refine Ask.o h fun p2 h=> ?_
  conv=>whnf
  refine Elem.o (by first | omega | (simp [Be] at * <;> omega)) ?_
  conv=>whnf
  refine Br.od h (fun p3 h=> ?_) (fun p3 h=> ?_)
  ·conv=>whnf
   refine Br.yes ?_
   conv=>whnf
   refine Br.yes ?_
   conv=>whnf
   refine Br.yes ?_
   conv=>whnf
   refine Br.yes ?_
   conv=>whnf
   cases h;exact ⟨rfl,rfl⟩
  conv=>whnf
  refine Br.no ?_
  conv=>whnf
  refine Br.no ?_
  conv=>whnf
  refine Br.no ?_
  conv=>whnf
  refine Br.od h (fun p4 h=> ?_) (fun p4 h=> ?_)
  ·conv=>whnf
   cases h;exact ⟨rfl,rfl⟩
  conv=>whnf
  refine Ask.o h fun p5 h=> ?_
  conv=>whnf
  cases h;exact ⟨rfl,rfl⟩
 conv=>whnf
 cases h;exact ⟨rfl,rfl⟩
noncomputable def Gl (list0:(List Int)) (n0:Int):Option Bool:=
 (Ao (Ed list0 n0) (0:Int)).bind fun t=>match t with
 | (.inl _)=>(some false)
 | (.inr _)=>(some true)
theorem To {list0:(List Int)} {n0:Int} {v:Bool} (h:Gl list0 n0=some v):Ret Tryz.prog J1 [(slr false 1 Ae) list0,Ae n0] (V.bool v):=by
 refine A5 Alx (Nat.le_of_ble_eq_true rfl) ?_
 unfold Gl at h
 conv=>whnf
 refine Len.map ?_
 conv=>whnf
 refine LoopQ.o [9,8,7,1] (Nb list0 n0) (T0 list0 n0) h (fun s o h=>Afg s o h) (by first | rfl | simp [restrict,look,Aa,V.fz,fzL,V.up,upL,Ab,Ac,Ad,slr]) (by rintro (_ | _)<;>rfl) ?_
 rintro (⟨⟩ | ⟨⟩) h
 ·try dsimp only at h
  conv=>whnf
  cases h;exact (by first | rfl | simp only [Ah,Aa,V.fz,fzL,V.up,upL,Ab,Ac,Ad,slr] | simp [Ah,Aa,V.fz,fzL,V.up,upL,Ab,Ac,Ad,slr])
 try dsimp only at h
 conv=>whnf
 cases h;exact (by first | rfl | simp only [Ah,Aa,V.fz,fzL,V.up,upL,Ab,Ac,Ad,slr] | simp [Ah,Aa,V.fz,fzL,V.up,upL,Ab,Ac,Ad,slr])
noncomputable def Ds (f0:List Int) (g0:List Int):(Int×(List Int))→Option ((Int×(List Int)) ⊕ (List Int)):=fun (x13,x5)=>
 if x13<(↑f0.length:Int) then
 ask ((0:Int)≤x13∧x13<(↑f0.length:Int)) <|
 ask ((0:Int)≤nth f0 x13.toNat∧nth f0 x13.toNat<(↑g0.length:Int)) <|
 ask ((0:Int)≤x13∧x13<(↑x5.length:Int)) <|
 ask (InI (x13+(1:Int))) <|
 some (.inl (x13+(1:Int),x5.set x13.toNat (nth g0 (nth f0 x13.toNat).toNat)))
 else
 some (.inr x5)
def Md (f0:List Int) (g0:List Int):(Int×(List Int))→St:=fun s=>[(13,A.val (Ae s.1)),(12,A.val (Ae ((↑f0.length:Int)))),(11,A.val ((slr false 1 Ae) (f0))),(5,A.val ((slr true 1 Ae) s.2)),(1,A.val ((slr false 1 Ae) (g0)))]
def R5 (_f0:List Int) (_g0:List Int):(List Int)→Tgt
 | s=>((Ex.exit 0),[5],[(5,A.val ((slr true 1 Ae) s))])
theorem Ac7 {f0:List Int} {g0:List Int} (s:(Int×(List Int))) (o:(Int×(List Int)) ⊕ (List Int)) (h:Ds f0 g0 s=some o):vc Tryz.prog Rk (Dc [13,12,11,5,1] (Md f0 g0) (R5 f0 g0) o) (Md f0 g0 s):=by
 obtain ⟨x13,x5⟩:=s
 unfold Ds at h
 try dsimp only at h
 conv=>whnf
 refine Br.od h (fun p2 h=> ?_) (fun p2 h=> ?_)
 ·conv=>whnf
  refine Len.map ?_
  conv=>whnf
  refine Ask.o h fun p3 h=> ?_
  conv=>whnf
  refine Elem.o (by first | omega | (simp [Be] at * <;> omega)) ?_
  conv=>whnf
  refine Len.map ?_
  conv=>whnf
  refine Ask.o h fun p4 h=> ?_
  conv=>whnf
  refine Elem.o (by first | omega | (simp [Be] at * <;> omega)) ?_
  conv=>whnf
  refine Len.map ?_
  conv=>whnf
  refine Ask.o h fun p5 h=> ?_
  conv=>whnf
  refine SetKids.one (fun _=>⟨rfl,rfl⟩) (nth g0 (nth f0 x13.toNat).toNat) (by first | rfl | simp only [Aa,V.fz,fzL,V.up,upL,Ab,Ac,Ad,slr,List.cons_append,List.nil_append] | simp [Aa,V.fz,fzL,V.up,upL,Ab,Ac,Ad,slr]) (by first | omega | (simp [Be] at * <;> omega)) ?_
  conv=>whnf
  refine Ask.o h fun p6 h=> ?_
  conv=>whnf
  cases h;exact ⟨rfl,rfl⟩
 conv=>whnf
 cases h;exact ⟨rfl,rfl⟩
noncomputable def Iw (f0:(List Int)) (g0:(List Int)):Option (List Int):=
 ask ((0:Int)≤(↑f0.length:Int)∧(↑f0.length:Int)≤(↑LIM:Int)) <|
 (Ao (Ds f0 g0) ((0:Int),List.replicate (↑f0.length:Int).toNat (0:Int))).bind fun q7_5=>
 some q7_5
theorem Ahn {f0:(List Int)} {g0:(List Int)} {v:(List Int)} (h:Iw f0 g0=some v):Ret Tryz.prog Qp [(slr false 1 Ae) f0,(slr false 1 Ae) g0] ((slr true 1 Ae) v):=by
 refine A5 Aim (Nat.le_of_ble_eq_true rfl) ?_
 unfold Iw at h
 conv=>whnf
 refine Len.map ?_
 conv=>whnf
 refine Ask.o h fun p1 h=> ?_
 conv=>whnf
 refine MkQ.o Ae ((0:Int)) rfl ?_
 conv=>whnf
 refine Len.map ?_
 conv=>whnf
 refine LoopQ.o [13,12,11,5,1] (Md f0 g0) (R5 f0 g0) h (fun s o h=>Ac7 s o h) (by first | rfl | simp [restrict,look,Aa,V.fz,fzL,V.up,upL,Ab,Ac,Ad,slr]) (fun _=>rfl) ?_
 rintro q7_5 h
 try dsimp only at h
 conv=>whnf
 cases h;exact (by first | rfl | simp only [Ah,Aa,V.fz,fzL,V.up,upL,Ab,Ac,Ad,slr] | simp [Ah,Aa,V.fz,fzL,V.up,upL,Ab,Ac,Ad,slr])
noncomputable def Ey (n0:Int):(Int×Int)→Option ((Int×Int) ⊕ Int):=fun (x5,x1)=>
 if x1>(0:Int) then
 ask (InI (x5*n0)) <|
 ask (InI (x1-(1:Int))) <|
 some (.inl (x5*n0,x1-(1:Int)))
 else
 some (.inr x5)
def O4 (n0:Int):(Int×Int)→St:=fun s=>[(5,A.val (Ae s.1)),(0,A.val (Ae (n0))),(1,A.val (Ae s.2))]
def Wl (_n0:Int):Int→Tgt
 | s=>((Ex.exit 0),[5],[(5,A.val (Ae s))])
theorem Ag2 {n0:Int} (s:(Int×Int)) (o:(Int×Int) ⊕ Int) (h:Ey n0 s=some o):vc Tryz.prog V7 (Dc [5,0,1] (O4 n0) (Wl n0) o) (O4 n0 s):=by
 obtain ⟨x5,x1⟩:=s
 unfold Ey at h
 try dsimp only at h
 conv=>whnf
 refine Br.od h (fun p1 h=> ?_) (fun p1 h=> ?_)
 ·conv=>whnf
  refine Ask.o h fun p2 h=> ?_
  conv=>whnf
  refine Ask.o h fun p3 h=> ?_
  conv=>whnf
  cases h;exact ⟨rfl,rfl⟩
 conv=>whnf
 cases h;exact ⟨rfl,rfl⟩
noncomputable def Jl (n0:Int) (k0:Int):Option Int:=
 (Ao (Ey n0) ((1:Int),k0)).bind fun q4_5=>
 some q4_5
theorem Ac6 {n0:Int} {k0:Int} {v:Int} (h:Jl n0 k0=some v):Ret Tryz.prog Pp [Ae n0,Ae k0] (Ae v):=by
 refine A5 Aoe (Nat.le_of_ble_eq_true rfl) ?_
 unfold Jl at h
 conv=>whnf
 refine LoopQ.o [5,0,1] (O4 n0) (Wl n0) h (fun s o h=>Ag2 s o h) (by first | rfl | simp [restrict,look,Aa,V.fz,fzL,V.up,upL,Ab,Ac,Ad,slr]) (fun _=>rfl) ?_
 rintro q4_5 h
 try dsimp only at h
 conv=>whnf
 cases h;exact (by first | rfl | simp only [Ah,Aa,V.fz,fzL,V.up,upL,Ab,Ac,Ad,slr] | simp [Ah,Aa,V.fz,fzL,V.up,upL,Ab,Ac,Ad,slr])
noncomputable def Bz (p0:List Int) (x4:Int):(Int×SRelation)→Option ((Int×SRelation) ⊕ SRelation):=fun (x5,x3')=>
 if x5<(↑p0.length:Int) then
 ask ((0:Int)≤x4∧x4<(↑p0.length:Int)) <|
 ask ((0:Int)≤x5∧x5<(↑p0.length:Int)) <|
 if nth p0 x4.toNat=nth p0 x5.toNat then
 ask ((x3'.Tuples).length+([[x4,x5]]).length≤LIM) <|
 ask (InI (x5+(1:Int))) <|
 some (.inl (x5+(1:Int),{ Arity:=x3'.Arity,Tuples:=x3'.Tuples++[[x4,x5]] }))
 else
 ask (InI (x5+(1:Int))) <|
 some (.inl (x5+(1:Int),x3'))
 else
 some (.inr x3')
def Gs (p0:List Int) (x4:Int):(Int×SRelation)→St:=fun s=>[(5,A.val (Ae s.1)),(4,A.val (Ae (x4))),(3,A.val ((rP true (Ar)) s.2)),(2,A.val ((rP true (Ar)) ({ Arity:=(0:Int),Tuples:=Au (List Int) }))),(0,A.val ((slr false 1 Ae) (p0)))]
def Km (p0:List Int) (x4:Int):SRelation→Tgt
 | s=>((Ex.exit 2),[4,3,2,0],[(4,A.val (Ae (x4))),(3,A.val ((rP true (Ar)) s)),(2,A.val ((rP true (Ar)) ({ Arity:=(0:Int),Tuples:=Au (List Int) }))),(0,A.val ((slr false 1 Ae) (p0)))])
theorem Tf {p0:List Int} {x4:Int} (s:(Int×SRelation)) (o:(Int×SRelation) ⊕ SRelation) (h:Bz p0 x4 s=some o):vc Tryz.prog Kd (Dc [5,4,3,2,0] (Gs p0 x4) (Km p0 x4) o) (Gs p0 x4 s):=by
 obtain ⟨x5,x3'⟩:=s
 unfold Bz at h
 try dsimp only at h
 conv=>whnf
 refine Len.map ?_
 conv=>whnf
 refine Br.od h (fun p2 h=> ?_) (fun p2 h=> ?_)
 ·conv=>whnf
  refine Len.map ?_
  conv=>whnf
  refine Ask.o h fun p3 h=> ?_
  conv=>whnf
  refine Elem.o (by first | omega | (simp [Be] at * <;> omega)) ?_
  conv=>whnf
  refine Len.map ?_
  conv=>whnf
  refine Ask.o h fun p4 h=> ?_
  conv=>whnf
  refine Elem.o (by first | omega | (simp [Be] at * <;> omega)) ?_
  conv=>whnf
  refine Br.oe h (fun p5 h=> ?_) (fun p5 h=> ?_)
  ·conv=>whnf
   refine Cells.lit rfl rfl ?_
   conv=>whnf
   refine BslQ.o Ae ([x4,x5]) (by exact fun _=>⟨rfl,rfl⟩) (by first | rfl | (simp only [Aa,V.fz,fzL,V.up,upL,Ab,Ac,Ad,slr,List.cons_append,List.nil_append];done) | simp [Aa,V.fz,fzL,V.up,upL,Ab,Ac,Ad,slr]) ?_
   conv=>whnf
   refine FrzQ.d (V.sl false (1:Nat) (List.map Ae [x4,x5])) (by first | (simp only [Am,Ac];done) | (simp [Am,V.fz,Ab,Ac,slr];done) | (simp [Am,V.fz,fzL,Ab,slr];done)) ?_
   conv=>whnf
   refine BslQ.o (slr false 1 Ae) ([[x4,x5]]) (by exact fun _=>⟨rfl,rfl⟩) (by first | rfl | (simp only [Aa,V.fz,fzL,V.up,upL,Ab,Ac,Ad,slr,List.cons_append,List.nil_append];done) | simp [Aa,V.fz,fzL,V.up,upL,Ab,Ac,Ad,slr]) ?_
   conv=>whnf
   refine NoOwn.o (fun _=>rfl) ?_
   conv=>whnf
   refine Kid.lit rfl rfl ?_
   conv=>whnf
   refine Kid.lit rfl rfl ?_
   conv=>whnf
   refine SetKids.lit rfl ?_
   conv=>whnf
   refine AppQ.o (m:=1) (slr false 1 Ae) (by exact fun _=>⟨rfl,rfl⟩) (x3'.Tuples) ([[x4,x5]]) (by first | rfl | simp only [Aa,V.fz,fzL,V.up,upL,Ab,Ac,Ad,slr,List.cons_append,List.nil_append] | simp [Aa,V.fz,fzL,V.up,upL,Ab,Ac,Ad,slr]) (by first | rfl | simp only [Aa,V.fz,fzL,V.up,upL,Ab,Ac,Ad,slr,List.cons_append,List.nil_append] | simp [Aa,V.fz,fzL,V.up,upL,Ab,Ac,Ad,slr]) h fun h=> ?_
   conv=>whnf
   refine SetKids.lit rfl ?_
   conv=>whnf
   refine Ask.o h fun p6 h=> ?_
   conv=>whnf
   cases h;exact ⟨rfl,rfl⟩
  conv=>whnf
  refine Ask.o h fun p7 h=> ?_
  conv=>whnf
  cases h;exact ⟨rfl,rfl⟩
 conv=>whnf
 cases h;exact ⟨rfl,rfl⟩
noncomputable def B5 (p0:List Int):(Int×SRelation)→Option ((Int×SRelation) ⊕ SRelation):=fun (x4,x3)=>
 if x4<(↑p0.length:Int) then
 (Ao (Bz p0 x4) ((0:Int),x3)).bind fun q8_3=>
 ask (InI (x4+(1:Int))) <|
 some (.inl (x4+(1:Int),q8_3))
 else
 some (.inr x3)
def Gn (p0:List Int):(Int×SRelation)→St:=fun s=>[(4,A.val (Ae s.1)),(3,A.val ((rP true (Ar)) s.2)),(2,A.val ((rP true (Ar)) ({ Arity:=(0:Int),Tuples:=Au (List Int) }))),(0,A.val ((slr false 1 Ae) (p0)))]
def Ke (_p0:List Int):SRelation→Tgt
 | s=>((Ex.exit 0),[3,2],[(3,A.val ((rP true (Ar)) s)),(2,A.val ((rP true (Ar)) ({ Arity:=(0:Int),Tuples:=Au (List Int) })))])
theorem Tc {p0:List Int} (s:(Int×SRelation)) (o:(Int×SRelation) ⊕ SRelation) (h:B5 p0 s=some o):vc Tryz.prog J0 (Dc [4,3,2,0] (Gn p0) (Ke p0) o) (Gn p0 s):=by
 obtain ⟨x4,x3⟩:=s
 unfold B5 at h
 try dsimp only at h
 conv=>whnf
 refine Len.map ?_
 conv=>whnf
 refine Br.od h (fun p1 h=> ?_) (fun p1 h=> ?_)
 ·conv=>whnf
  refine LoopQ.o [5,4,3,2,0] (Gs p0 x4) (Km p0 x4) h (fun s o h=>Tf s o h) (by first | rfl | simp [restrict,look,Aa,V.fz,fzL,V.up,upL,Ab,Ac,Ad,slr]) (fun _=>rfl) ?_
  rintro q8_3 h
  try dsimp only at h
  conv=>whnf
  refine Ask.o h fun p9 h=> ?_
  conv=>whnf
  cases h;exact ⟨rfl,rfl⟩
 conv=>whnf
 cases h;exact ⟨rfl,rfl⟩
noncomputable def C7 (p0:(List Int)):Option SRelation:=
 (Ao (B5 p0) ((0:Int),{ Arity:=(2:Int),Tuples:=Au (List Int) })).bind fun q10_3=>
 some q10_3
theorem Ws {p0:(List Int)} {v:SRelation} (h:C7 p0=some v):Ret Tryz.prog Hz [(slr false 1 Ae) p0] ((Ar) v):=by
 refine A5 W8 (Nat.le_of_ble_eq_true rfl) ?_
 unfold C7 at h
 conv=>whnf
 refine BslQ.o (slr true 1 Ae) (Au (List Int)) (by exact fun _=>⟨rfl,rfl⟩) (by first | rfl | (simp only [Aa,V.fz,fzL,V.up,upL,Ab,Ac,Ad,slr,List.cons_append,List.nil_append];done) | simp [Aa,V.fz,fzL,V.up,upL,Ab,Ac,Ad,slr]) ?_
 conv=>whnf
 refine SetKids.lit rfl ?_
 conv=>whnf
 refine LoopQ.o [4,3,2,0] (Gn p0) (Ke p0) h (fun s o h=>Tc s o h) (by first | rfl | simp [restrict,look,Aa,V.fz,fzL,V.up,upL,Ab,Ac,Ad,slr]) (fun _=>rfl) ?_
 rintro q10_3 h
 try dsimp only at h
 conv=>whnf
 refine Cells.lit rfl rfl ?_
 conv=>whnf
 refine SetKids.lit rfl ?_
 conv=>whnf
 cases h;exact (by first | rfl | simp only [Ah,Aa,V.fz,fzL,V.up,upL,Ab,Ac,Ad,slr] | simp [Ah,Aa,V.fz,fzL,V.up,upL,Ab,Ac,Ad,slr])
noncomputable def Eb (a0:List Int) (b0:List Int):Int→Option (Int ⊕ (Bool ⊕ Unit)):=fun x5=>
 if x5<(↑a0.length:Int) then
 ask ((0:Int)≤x5∧x5<(↑a0.length:Int)) <|
 ask ((0:Int)≤x5∧x5<(↑b0.length:Int)) <|
 if nth a0 x5.toNat≠nth b0 x5.toNat then
 ask ((0:Int)≤x5∧x5<(↑a0.length:Int)) <|
 ask ((0:Int)≤x5∧x5<(↑b0.length:Int)) <|
 some (.inr (.inl (decide (nth a0 x5.toNat<nth b0 x5.toNat))))
 else
 ask (InI (x5+(1:Int))) <|
 some (.inl (x5+(1:Int)))
 else
 some (.inr (.inr ()))
def Nd (a0:List Int) (b0:List Int):Int→St:=fun s=>[(5,A.val (Ae s)),(0,A.val ((slr false 1 Ae) (a0))),(1,A.val ((slr false 1 Ae) (b0)))]
def Uq (_a0:List Int) (_b0:List Int):(Bool ⊕ Unit)→Tgt
 | (.inl s)=>(Ex.ret,[4],[(4,A.val (V.bool s))])
 | (.inr _s)=>((Ex.exit 0),[],[])
theorem Aer {a0:List Int} {b0:List Int} (x5:Int) (o:Int ⊕ (Bool ⊕ Unit)) (h:Eb a0 b0 x5=some o):vc Tryz.prog Ua (Dc [5,0,1] (Nd a0 b0) (Uq a0 b0) o) (Nd a0 b0 x5):=by
 unfold Eb at h
 try dsimp only at h
 conv=>whnf
 refine Len.map ?_
 conv=>whnf
 refine Br.od h (fun p1 h=> ?_) (fun p1 h=> ?_)
 ·conv=>whnf
  refine Len.map ?_
  conv=>whnf
  refine Ask.o h fun p2 h=> ?_
  conv=>whnf
  refine Elem.o (by first | omega | (simp [Be] at * <;> omega)) ?_
  conv=>whnf
  refine Len.map ?_
  conv=>whnf
  refine Ask.o h fun p3 h=> ?_
  conv=>whnf
  refine Elem.o (by first | omega | (simp [Be] at * <;> omega)) ?_
  conv=>whnf
  refine Br.on h (fun p4 h=> ?_) (fun p4 h=> ?_)
  ·conv=>whnf
   refine Len.map ?_
   conv=>whnf
   refine Ask.o h fun p5 h=> ?_
   conv=>whnf
   refine Elem.o (by first | omega | (simp [Be] at * <;> omega)) ?_
   conv=>whnf
   refine Len.map ?_
   conv=>whnf
   refine Ask.o h fun p6 h=> ?_
   conv=>whnf
   refine Elem.o (by first | omega | (simp [Be] at * <;> omega)) ?_
   conv=>whnf
   cases h;exact ⟨rfl,rfl⟩
  conv=>whnf
  refine Ask.o h fun p7 h=> ?_
  conv=>whnf
  cases h;exact ⟨rfl,rfl⟩
 conv=>whnf
 cases h;exact ⟨rfl,rfl⟩
noncomputable def Hs (a0:(List Int)) (b0:(List Int)):Option Bool:=
 (Ao (Eb a0 b0) (0:Int)).bind fun t=>match t with
 | (.inl q8_4)=>(some q8_4)
 | (.inr _)=>(some false)
theorem Aaf {a0:(List Int)} {b0:(List Int)} {v:Bool} (h:Hs a0 b0=some v):Ret Tryz.prog Nh [(slr false 1 Ae) a0,(slr false 1 Ae) b0] (V.bool v):=by
 refine A5 Al9 (Nat.le_of_ble_eq_true rfl) ?_
 unfold Hs at h
 conv=>whnf
 refine LoopQ.o [5,0,1] (Nd a0 b0) (Uq a0 b0) h (fun s o h=>Aer s o h) (by first | rfl | simp [restrict,look,Aa,V.fz,fzL,V.up,upL,Ab,Ac,Ad,slr]) (by rintro (_ | _)<;>rfl) ?_
 rintro (q8_4 | ⟨⟩) h
 ·try dsimp only at h
  conv=>whnf
  cases h;exact (by first | rfl | simp only [Ah,Aa,V.fz,fzL,V.up,upL,Ab,Ac,Ad,slr] | simp [Ah,Aa,V.fz,fzL,V.up,upL,Ab,Ac,Ad,slr])
 try dsimp only at h
 conv=>whnf
 cases h;exact (by first | rfl | simp only [Ah,Aa,V.fz,fzL,V.up,upL,Ab,Ac,Ad,slr] | simp [Ah,Aa,V.fz,fzL,V.up,upL,Ab,Ac,Ad,slr])
noncomputable def D8 (n0:Int):(Int×(List Int)×Int)→Option ((Int×(List Int)×Int) ⊕ (List Int)):=fun (x8,x7,x2)=>
 if x8≥(0:Int) then
 ask (n0≠(0:Int)) <|
 ask ((0:Int)≤x8∧x8<(↑x7.length:Int)) <|
 ask (n0≠(0:Int)∧InI (x2.tdiv n0)) <|
 ask (InI (x8-(1:Int))) <|
 some (.inl (x8-(1:Int),x7.set x8.toNat (x2.tmod n0),x2.tdiv n0))
 else
 some (.inr x7)
def M8 (n0:Int):(Int×(List Int)×Int)→St:=fun s=>[(8,A.val (Ae s.1)),(7,A.val ((slr true 1 Ae) s.2.1)),(0,A.val (Ae (n0))),(2,A.val (Ae s.2.2))]
def Um (_n0:Int):(List Int)→Tgt
 | s=>((Ex.exit 0),[7],[(7,A.val ((slr true 1 Ae) s))])
theorem Afj {n0:Int} (s:(Int×(List Int)×Int)) (o:(Int×(List Int)×Int) ⊕ (List Int)) (h:D8 n0 s=some o):vc Tryz.prog T9 (Dc [8,7,0,2] (M8 n0) (Um n0) o) (M8 n0 s):=by
 obtain ⟨x8,x7,x2⟩:=s
 unfold D8 at h
 try dsimp only at h
 conv=>whnf
 refine Br.od h (fun p3 h=> ?_) (fun p3 h=> ?_)
 ·conv=>whnf
  refine Ask.o h fun p4 h=> ?_
  conv=>whnf
  refine Len.map ?_
  conv=>whnf
  refine Ask.o h fun p5 h=> ?_
  conv=>whnf
  refine SetKids.one (fun _=>⟨rfl,rfl⟩) (x2.tmod n0) (by first | rfl | simp only [Aa,V.fz,fzL,V.up,upL,Ab,Ac,Ad,slr,List.cons_append,List.nil_append] | simp [Aa,V.fz,fzL,V.up,upL,Ab,Ac,Ad,slr]) (by first | omega | (simp [Be] at * <;> omega)) ?_
  conv=>whnf
  refine Ask.o h fun p6 h=> ?_
  conv=>whnf
  refine Ask.o h fun p7 h=> ?_
  conv=>whnf
  cases h;exact ⟨rfl,rfl⟩
 conv=>whnf
 cases h;exact ⟨rfl,rfl⟩
noncomputable def Ki (n0:Int) (arity0:Int) (at0:Int):Option (List Int):=
 ask ((0:Int)≤arity0∧arity0≤(↑LIM:Int)) <|
 ask (InI (arity0-(1:Int))) <|
 (Ao (D8 n0) (arity0-(1:Int),List.replicate arity0.toNat (0:Int),at0)).bind fun q8_7=>
 some q8_7
theorem Akn {n0:Int} {arity0:Int} {at0:Int} {v:(List Int)} (h:Ki n0 arity0 at0=some v):Ret Tryz.prog Sw [Ae n0,Ae arity0,Ae at0] ((slr true 1 Ae) v):=by
 refine A5 Alw (Nat.le_of_ble_eq_true rfl) ?_
 unfold Ki at h
 conv=>whnf
 refine Ask.o h fun p1 h=> ?_
 conv=>whnf
 refine MkQ.o Ae ((0:Int)) rfl ?_
 conv=>whnf
 refine Ask.o h fun p2 h=> ?_
 conv=>whnf
 refine LoopQ.o [8,7,0,2] (M8 n0) (Um n0) h (fun s o h=>Afj s o h) (by first | rfl | simp [restrict,look,Aa,V.fz,fzL,V.up,upL,Ab,Ac,Ad,slr]) (fun _=>rfl) ?_
 rintro q8_7 h
 try dsimp only at h
 conv=>whnf
 cases h;exact (by first | rfl | simp only [Ah,Aa,V.fz,fzL,V.up,upL,Ab,Ac,Ad,slr] | simp [Ah,Aa,V.fz,fzL,V.up,upL,Ab,Ac,Ad,slr])
noncomputable def Jn (l0:(List Int)):Option (List Int):=
 ask ((Au Int).length+(l0).length≤LIM) <|
 some (Au Int++l0)
theorem Ad3 {l0:(List Int)} {v:(List Int)} (h:Jn l0=some v):Ret Tryz.prog Po [(slr false 1 Ae) l0] ((slr true 1 Ae) v):=by
 refine A5 Anv (Nat.le_of_ble_eq_true rfl) ?_
 unfold Jn at h
 conv=>whnf
 refine BslQ.o Ae (Au Int) (by exact fun _=>⟨rfl,rfl⟩) (by first | rfl | (simp only [Aa,V.fz,fzL,V.up,upL,Ab,Ac,Ad,slr,List.cons_append,List.nil_append];done) | simp [Aa,V.fz,fzL,V.up,upL,Ab,Ac,Ad,slr]) ?_
 conv=>whnf
 refine AppQ.o (m:=1) Ae (by exact fun _=>⟨rfl,rfl⟩) (Au Int) (l0) (by first | rfl | simp only [Aa,V.fz,fzL,V.up,upL,Ab,Ac,Ad,slr,List.cons_append,List.nil_append] | simp [Aa,V.fz,fzL,V.up,upL,Ab,Ac,Ad,slr]) (by first | rfl | simp only [Aa,V.fz,fzL,V.up,upL,Ab,Ac,Ad,slr,List.cons_append,List.nil_append] | simp [Aa,V.fz,fzL,V.up,upL,Ab,Ac,Ad,slr]) h fun h=> ?_
 conv=>whnf
 cases h;exact (by first | rfl | simp only [Ah,Aa,V.fz,fzL,V.up,upL,Ab,Ac,Ad,slr] | simp [Ah,Aa,V.fz,fzL,V.up,upL,Ab,Ac,Ad,slr])
noncomputable def Ev (a0:SAlgebra) (_op0:Int) (tuples0:List (List Int)) (_k0:Int) (x10:Int) (_x9:List Int):(Int×Int)→Option ((Int×Int) ⊕ Int):=fun (x12,x11)=>
 if x12<(↑tuples0.length:Int) then
 ask (InI (x11*a0.Size)) <|
 ask ((0:Int)≤x12∧x12<(↑tuples0.length:Int)) <|
 ask ((0:Int)≤x10∧x10<(↑(nth tuples0 x12.toNat).length:Int)) <|
 ask (InI (x11*a0.Size+nth (nth tuples0 x12.toNat) x10.toNat)) <|
 ask (InI (x12+(1:Int))) <|
 some (.inl (x12+(1:Int),x11*a0.Size+nth (nth tuples0 x12.toNat) x10.toNat))
 else
 some (.inr x11)
def L2 (a0:SAlgebra) (op0:Int) (tuples0:List (List Int)) (k0:Int) (x10:Int) (x9:List Int):(Int×Int)→St:=fun s=>[(12,A.val (Ae s.1)),(11,A.val (Ae s.2)),(10,A.val (Ae (x10))),(9,A.val ((slr true 1 Ae) (x9))),(4,A.val ((rP true (A8 false)) (a0))),(1,A.val (Ae (op0))),(2,A.val ((slr false 1 (slr false 1 Ae)) (tuples0))),(3,A.val (Ae (k0)))]
def Rg (a0:SAlgebra) (op0:Int) (tuples0:List (List Int)) (k0:Int) (x10:Int) (x9:List Int):Int→Tgt
 | s=>((Ex.exit 2),[11,10,9,4,1,2,3],[(11,A.val (Ae s)),(10,A.val (Ae (x10))),(9,A.val ((slr true 1 Ae) (x9))),(4,A.val ((rP true (A8 false)) (a0))),(1,A.val (Ae (op0))),(2,A.val ((slr false 1 (slr false 1 Ae)) (tuples0))),(3,A.val (Ae (k0)))])
theorem Acg {a0:SAlgebra} {op0:Int} {tuples0:List (List Int)} {k0:Int} {x10:Int} {x9:List Int} (s:(Int×Int)) (o:(Int×Int) ⊕ Int) (h:Ev a0 op0 tuples0 k0 x10 x9 s=some o):vc Tryz.prog Rs (Dc [12,11,10,9,4,1,2,3] (L2 a0 op0 tuples0 k0 x10 x9) (Rg a0 op0 tuples0 k0 x10 x9) o) (L2 a0 op0 tuples0 k0 x10 x9 s):=by
 obtain ⟨x12,x11⟩:=s
 unfold Ev at h
 try dsimp only at h
 conv=>whnf
 refine Len.map ?_
 conv=>whnf
 refine Br.od h (fun p2 h=> ?_) (fun p2 h=> ?_)
 ·conv=>whnf
  refine Cells.lit rfl rfl ?_
  conv=>whnf
  refine Ask.o h fun p3 h=> ?_
  conv=>whnf
  refine Len.map ?_
  conv=>whnf
  refine Ask.o h fun p4 h=> ?_
  conv=>whnf
  refine Elem.o (by first | omega | (simp [Be] at * <;> omega)) ?_
  conv=>whnf
  refine Len.map ?_
  conv=>whnf
  refine Ask.o h fun p5 h=> ?_
  conv=>whnf
  refine Elem.o (by first | omega | (simp [Be] at * <;> omega)) ?_
  conv=>whnf
  refine Ask.o h fun p6 h=> ?_
  conv=>whnf
  refine Ask.o h fun p7 h=> ?_
  conv=>whnf
  cases h;exact ⟨rfl,rfl⟩
 conv=>whnf
 cases h;exact ⟨rfl,rfl⟩
noncomputable def Dx (a0:SAlgebra) (op0:Int) (tuples0:List (List Int)) (k0:Int):(Int×(List Int))→Option ((Int×(List Int)) ⊕ (List Int)):=fun (x10,x9)=>
 if x10<k0 then
 (Ao (Ev a0 op0 tuples0 k0 x10 x9) ((0:Int),(0:Int))).bind fun q8_11=>
 ask ((0:Int)≤op0∧op0<(↑a0.Ops.length:Int)) <|
 ask ((0:Int)≤q8_11∧q8_11<(↑(nth a0.Ops op0.toNat).Table.length:Int)) <|
 ask ((x9).length+([nth (nth a0.Ops op0.toNat).Table q8_11.toNat]).length≤LIM) <|
 ask (InI (x10+(1:Int))) <|
 some (.inl (x10+(1:Int),x9++[nth (nth a0.Ops op0.toNat).Table q8_11.toNat]))
 else
 some (.inr x9)
def Ll (a0:SAlgebra) (op0:Int) (tuples0:List (List Int)) (k0:Int):(Int×(List Int))→St:=fun s=>[(10,A.val (Ae s.1)),(9,A.val ((slr true 1 Ae) s.2)),(4,A.val ((rP true (A8 false)) (a0))),(1,A.val (Ae (op0))),(2,A.val ((slr false 1 (slr false 1 Ae)) (tuples0))),(3,A.val (Ae (k0)))]
def Se (_a0:SAlgebra) (_op0:Int) (_tuples0:List (List Int)) (_k0:Int):(List Int)→Tgt
 | s=>((Ex.exit 0),[9],[(9,A.val ((slr true 1 Ae) s))])
theorem Adh {a0:SAlgebra} {op0:Int} {tuples0:List (List Int)} {k0:Int} (s:(Int×(List Int))) (o:(Int×(List Int)) ⊕ (List Int)) (h:Dx a0 op0 tuples0 k0 s=some o):vc Tryz.prog So (Dc [10,9,4,1,2,3] (Ll a0 op0 tuples0 k0) (Se a0 op0 tuples0 k0) o) (Ll a0 op0 tuples0 k0 s):=by
 obtain ⟨x10,x9⟩:=s
 unfold Dx at h
 try dsimp only at h
 conv=>whnf
 refine Br.od h (fun p1 h=> ?_) (fun p1 h=> ?_)
 ·conv=>whnf
  refine LoopQ.o [12,11,10,9,4,1,2,3] (L2 a0 op0 tuples0 k0 x10 x9) (Rg a0 op0 tuples0 k0 x10 x9) h (fun s o h=>Acg s o h) (by first | rfl | simp [restrict,look,Aa,V.fz,fzL,V.up,upL,Ab,Ac,Ad,slr]) (fun _=>rfl) ?_
  rintro q8_11 h
  try dsimp only at h
  conv=>whnf
  refine Cells.lit rfl rfl ?_
  conv=>whnf
  refine Len.map ?_
  conv=>whnf
  refine Ask.o h fun p9 h=> ?_
  conv=>whnf
  refine Elem.o (by first | omega | (simp [Be] at * <;> omega)) ?_
  conv=>whnf
  refine Len.map ?_
  conv=>whnf
  refine Ask.o h fun p10 h=> ?_
  conv=>whnf
  refine Elem.o (by first | omega | (simp [Be] at * <;> omega)) ?_
  conv=>whnf
  refine BslQ.o Ae ([nth (nth a0.Ops op0.toNat).Table q8_11.toNat]) (by exact fun _=>⟨rfl,rfl⟩) (by first | rfl | (simp only [Aa,V.fz,fzL,V.up,upL,Ab,Ac,Ad,slr,List.cons_append,List.nil_append];done) | simp [Aa,V.fz,fzL,V.up,upL,Ab,Ac,Ad,slr]) ?_
  conv=>whnf
  refine NoOwn.o (fun _=>rfl) ?_
  conv=>whnf
  refine AppQ.o (m:=1) Ae (by exact fun _=>⟨rfl,rfl⟩) (x9) ([nth (nth a0.Ops op0.toNat).Table q8_11.toNat]) (by first | rfl | simp only [Aa,V.fz,fzL,V.up,upL,Ab,Ac,Ad,slr,List.cons_append,List.nil_append] | simp [Aa,V.fz,fzL,V.up,upL,Ab,Ac,Ad,slr]) (by first | rfl | simp only [Aa,V.fz,fzL,V.up,upL,Ab,Ac,Ad,slr,List.cons_append,List.nil_append] | simp [Aa,V.fz,fzL,V.up,upL,Ab,Ac,Ad,slr]) h fun h=> ?_
  conv=>whnf
  refine Ask.o h fun p11 h=> ?_
  conv=>whnf
  cases h;exact ⟨rfl,rfl⟩
 conv=>whnf
 cases h;exact ⟨rfl,rfl⟩
noncomputable def Ff (a0:SAlgebra) (op0:Int) (tuples0:(List (List Int))) (k0:Int):Option (List Int):=
 (Ao (Dx a0 op0 tuples0 k0) ((0:Int),Au Int)).bind fun q12_9=>
 some q12_9
theorem Qm {a0:SAlgebra} {op0:Int} {tuples0:(List (List Int))} {k0:Int} {v:(List Int)} (h:Ff a0 op0 tuples0 k0=some v):Ret Tryz.prog I3 [(A8 false) a0,Ae op0,(slr false 1 (slr false 1 Ae)) tuples0,Ae k0] ((slr true 1 Ae) v):=by
 refine A5 Ake (Nat.le_of_ble_eq_true rfl) ?_
 unfold Ff at h
 conv=>whnf
 refine BslQ.o Ae (Au Int) (by exact fun _=>⟨rfl,rfl⟩) (by first | rfl | (simp only [Aa,V.fz,fzL,V.up,upL,Ab,Ac,Ad,slr,List.cons_append,List.nil_append];done) | simp [Aa,V.fz,fzL,V.up,upL,Ab,Ac,Ad,slr]) ?_
 conv=>whnf
 refine LoopQ.o [10,9,4,1,2,3] (Ll a0 op0 tuples0 k0) (Se a0 op0 tuples0 k0) h (fun s o h=>Adh s o h) (by first | rfl | simp [restrict,look,Aa,V.fz,fzL,V.up,upL,Ab,Ac,Ad,slr]) (fun _=>rfl) ?_
 rintro q12_9 h
 try dsimp only at h
 conv=>whnf
 cases h;exact (by first | rfl | simp only [Ah,Aa,V.fz,fzL,V.up,upL,Ab,Ac,Ad,slr] | simp [Ah,Aa,V.fz,fzL,V.up,upL,Ab,Ac,Ad,slr])
noncomputable def E0 (l0:List Int) (n0:Int):Int→Option (Int ⊕ (Unit ⊕ Unit)):=fun x5=>
 if x5<(↑l0.length:Int) then
 ask ((0:Int)≤x5∧x5<(↑l0.length:Int)) <|
 if nth l0 x5.toNat=n0 then
 some (.inr (.inl ()))
 else
 ask (InI (x5+(1:Int))) <|
 some (.inl (x5+(1:Int)))
 else
 some (.inr (.inr ()))
def Oj (l0:List Int) (n0:Int):Int→St:=fun s=>[(5,A.val (Ae s)),(0,A.val ((slr false 1 Ae) (l0))),(1,A.val (Ae (n0)))]
def Wf (_l0:List Int) (_n0:Int):(Unit ⊕ Unit)→Tgt
 | (.inl _s)=>(Ex.ret,[4],[(4,A.val (V.bool (true)))])
 | (.inr _s)=>((Ex.exit 0),[],[])
theorem Ag4 {l0:List Int} {n0:Int} (x5:Int) (o:Int ⊕ (Unit ⊕ Unit)) (h:E0 l0 n0 x5=some o):vc Tryz.prog Wc (Dc [5,0,1] (Oj l0 n0) (Wf l0 n0) o) (Oj l0 n0 x5):=by
 unfold E0 at h
 try dsimp only at h
 conv=>whnf
 refine Len.map ?_
 conv=>whnf
 refine Br.od h (fun p1 h=> ?_) (fun p1 h=> ?_)
 ·conv=>whnf
  refine Len.map ?_
  conv=>whnf
  refine Ask.o h fun p2 h=> ?_
  conv=>whnf
  refine Elem.o (by first | omega | (simp [Be] at * <;> omega)) ?_
  conv=>whnf
  refine Br.oe h (fun p3 h=> ?_) (fun p3 h=> ?_)
  ·conv=>whnf
   cases h;exact ⟨rfl,rfl⟩
  conv=>whnf
  refine Ask.o h fun p4 h=> ?_
  conv=>whnf
  cases h;exact ⟨rfl,rfl⟩
 conv=>whnf
 cases h;exact ⟨rfl,rfl⟩
noncomputable def Ls (l0:(List Int)) (n0:Int):Option Bool:=
 (Ao (E0 l0 n0) (0:Int)).bind fun t=>match t with
 | (.inl _)=>(some true)
 | (.inr _)=>(some false)
theorem Apj {l0:(List Int)} {n0:Int} {v:Bool} (h:Ls l0 n0=some v):Ret Tryz.prog Vb [(slr false 1 Ae) l0,Ae n0] (V.bool v):=by
 refine A5 Aod (Nat.le_of_ble_eq_true rfl) ?_
 unfold Ls at h
 conv=>whnf
 refine LoopQ.o [5,0,1] (Oj l0 n0) (Wf l0 n0) h (fun s o h=>Ag4 s o h) (by first | rfl | simp [restrict,look,Aa,V.fz,fzL,V.up,upL,Ab,Ac,Ad,slr]) (by rintro (_ | _)<;>rfl) ?_
 rintro (⟨⟩ | ⟨⟩) h
 ·try dsimp only at h
  conv=>whnf
  cases h;exact (by first | rfl | simp only [Ah,Aa,V.fz,fzL,V.up,upL,Ab,Ac,Ad,slr] | simp [Ah,Aa,V.fz,fzL,V.up,upL,Ab,Ac,Ad,slr])
 try dsimp only at h
 conv=>whnf
 cases h;exact (by first | rfl | simp only [Ah,Aa,V.fz,fzL,V.up,upL,Ab,Ac,Ad,slr] | simp [Ah,Aa,V.fz,fzL,V.up,upL,Ab,Ac,Ad,slr])
noncomputable def Dg (line0:List (List Int)) (numbers0:List Int):(Int×(List (List Int)))→Option ((Int×(List (List Int))) ⊕ (List (List Int))):=fun (x6,x5)=>
 if x6<(↑numbers0.length:Int) then
 ask ((0:Int)≤x6∧x6<(↑numbers0.length:Int)) <|
 ask ((0:Int)≤nth numbers0 x6.toNat∧nth numbers0 x6.toNat<(↑line0.length:Int)) <|
 ask ((x5).length+([nth line0 (nth numbers0 x6.toNat).toNat]).length≤LIM) <|
 ask (InI (x6+(1:Int))) <|
 some (.inl (x6+(1:Int),x5++[nth line0 (nth numbers0 x6.toNat).toNat]))
 else
 some (.inr x5)
def K4 (line0:List (List Int)) (numbers0:List Int):(Int×(List (List Int)))→St:=fun s=>[(6,A.val (Ae s.1)),(5,A.val ((slr true 1 (slr false 1 Ae)) s.2)),(0,A.val ((slr false 1 (slr false 1 Ae)) (line0))),(1,A.val ((slr false 1 Ae) (numbers0)))]
def Qj (_line0:List (List Int)) (_numbers0:List Int):(List (List Int))→Tgt
 | s=>((Ex.exit 0),[5],[(5,A.val ((slr true 1 (slr false 1 Ae)) s))])
theorem Aa4 {line0:List (List Int)} {numbers0:List Int} (s:(Int×(List (List Int)))) (o:(Int×(List (List Int))) ⊕ (List (List Int))) (h:Dg line0 numbers0 s=some o):vc Tryz.prog K1 (Dc [6,5,0,1] (K4 line0 numbers0) (Qj line0 numbers0) o) (K4 line0 numbers0 s):=by
 obtain ⟨x6,x5⟩:=s
 unfold Dg at h
 try dsimp only at h
 conv=>whnf
 refine Len.map ?_
 conv=>whnf
 refine Br.od h (fun p1 h=> ?_) (fun p1 h=> ?_)
 ·conv=>whnf
  refine Len.map ?_
  conv=>whnf
  refine Ask.o h fun p2 h=> ?_
  conv=>whnf
  refine Elem.o (by first | omega | (simp [Be] at * <;> omega)) ?_
  conv=>whnf
  refine Len.map ?_
  conv=>whnf
  refine Ask.o h fun p3 h=> ?_
  conv=>whnf
  refine Elem.o (by first | omega | (simp [Be] at * <;> omega)) ?_
  conv=>whnf
  refine BslQ.o (slr false 1 Ae) ([nth line0 (nth numbers0 x6.toNat).toNat]) (by exact fun _=>⟨rfl,rfl⟩) (by first | rfl | (simp only [Aa,V.fz,fzL,V.up,upL,Ab,Ac,Ad,slr,List.cons_append,List.nil_append];done) | simp [Aa,V.fz,fzL,V.up,upL,Ab,Ac,Ad,slr]) ?_
  conv=>whnf
  refine NoOwn.o (fun _=>rfl) ?_
  conv=>whnf
  refine AppQ.o (m:=1) (slr false 1 Ae) (by exact fun _=>⟨rfl,rfl⟩) (x5) ([nth line0 (nth numbers0 x6.toNat).toNat]) (by first | rfl | simp only [Aa,V.fz,fzL,V.up,upL,Ab,Ac,Ad,slr,List.cons_append,List.nil_append] | simp [Aa,V.fz,fzL,V.up,upL,Ab,Ac,Ad,slr]) (by first | rfl | simp only [Aa,V.fz,fzL,V.up,upL,Ab,Ac,Ad,slr,List.cons_append,List.nil_append] | simp [Aa,V.fz,fzL,V.up,upL,Ab,Ac,Ad,slr]) h fun h=> ?_
  conv=>whnf
  refine Ask.o h fun p4 h=> ?_
  conv=>whnf
  cases h;exact ⟨rfl,rfl⟩
 conv=>whnf
 cases h;exact ⟨rfl,rfl⟩
noncomputable def Hq (line0:(List (List Int))) (numbers0:(List Int)):Option (List (List Int)):=
 (Ao (Dg line0 numbers0) ((0:Int),Au (List Int))).bind fun q5_5=>
 some q5_5
theorem Ahc {line0:(List (List Int))} {numbers0:(List Int)} {v:(List (List Int))} (h:Hq line0 numbers0=some v):Ret Tryz.prog Ho [(slr false 1 (slr false 1 Ae)) line0,(slr false 1 Ae) numbers0] ((slr true 1 (slr false 1 Ae)) v):=by
 refine A5 We (Nat.le_of_ble_eq_true rfl) ?_
 unfold Hq at h
 conv=>whnf
 refine BslQ.o (slr true 1 Ae) (Au (List Int)) (by exact fun _=>⟨rfl,rfl⟩) (by first | rfl | (simp only [Aa,V.fz,fzL,V.up,upL,Ab,Ac,Ad,slr,List.cons_append,List.nil_append];done) | simp [Aa,V.fz,fzL,V.up,upL,Ab,Ac,Ad,slr]) ?_
 conv=>whnf
 refine LoopQ.o [6,5,0,1] (K4 line0 numbers0) (Qj line0 numbers0) h (fun s o h=>Aa4 s o h) (by first | rfl | simp [restrict,look,Aa,V.fz,fzL,V.up,upL,Ab,Ac,Ad,slr]) (fun _=>rfl) ?_
 rintro q5_5 h
 try dsimp only at h
 conv=>whnf
 cases h;exact (by first | rfl | simp only [Ah,Aa,V.fz,fzL,V.up,upL,Ab,Ac,Ad,slr] | simp [Ah,Aa,V.fz,fzL,V.up,upL,Ab,Ac,Ad,slr])
end Go.Proofs.YtjcekpmojnnmbaaGreat.Ax
