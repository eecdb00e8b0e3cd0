/-
 What the functions compute, as functions on plain data, and that the program does compute it; written by program.
-/
import Derived.Test.YtbnoclklhcbidaaDoorCode
import Derived.Test.YtbnoclklhcbidaaDoorG1
namespace Go.Proofs.YtbnoclklhcbidaaDoor.Ax
open Go
set_option maxRecDepth 100000
set_option maxHeartbeats 4000000
noncomputable def J9 (list0:(List Int)):Option (List Int):=
 ask ((A4 Int).length+(list0).length≤LIM) <|
 some (A4 Int++list0)
theorem Ai9 {list0:(List Int)} {v:(List Int)} (h:J9 list0=some v):Ret Tryd.prog Rc [(slr false 1 Af) list0] ((slr true 1 Af) v):=by
 refine Bp Ajc (Nat.le_of_ble_eq_true rfl) ?_
 unfold J9 at h
 conv=>whnf
 refine BslQ.o Af (A4 Int) (by exact fun _=>⟨rfl,rfl⟩) (by first | rfl | (simp only [Aa,V.fz,fzL,V.up,upL,Ab,Ac,Ad,slr,List.cons_append,List.nil_append];done) | simp [Aa,V.fz,fzL,V.up,upL,Ab,Ac,Ad,slr]) ?_
 conv=>whnf
 refine AppQ.o (m:=1) Af (by exact fun _=>⟨rfl,rfl⟩) (A4 Int) (list0) (by first | rfl | simp only [Aa,V.fz,fzL,V.up,upL,Ab,Ac,Ad,slr,List.cons_append,List.nil_append] | simp [Aa,V.fz,fzL,V.up,upL,Ab,Ac,Ad,slr]) (by first | rfl | simp only [Aa,V.fz,fzL,V.up,upL,Ab,Ac,Ad,slr,List.cons_append,List.nil_append] | simp [Aa,V.fz,fzL,V.up,upL,Ab,Ac,Ad,slr]) h fun h=> ?_
 conv=>whnf
 cases h;exact (by first | rfl | simp only [Ah,Aa,V.fz,fzL,V.up,upL,Ab,Ac,Ad,slr] | simp [Ah,Aa,V.fz,fzL,V.up,upL,Ab,Ac,Ad,slr])
noncomputable def C3 (a0:List Int) (b0:List Int):Int→Option (Int ⊕ (Unit ⊕ Unit)):=fun x14=>
 if x14<(↑a0.length:Int) then
 ask ((0:Int)≤x14∧x14<(↑a0.length:Int)) <|
 ask ((0:Int)≤x14∧x14<(↑b0.length:Int)) <|
 if nth b0 x14.toNat≠nth a0 x14.toNat then
 some (.inr (.inl ()))
 else
 ask (InI (x14+(1:Int))) <|
 some (.inl (x14+(1:Int)))
 else
 some (.inr (.inr ()))
def I8 (a0:List Int) (b0:List Int):Int→St:=fun s=>[(14,A.val (Af s)),(13,A.val (Af ((↑a0.length:Int)))),(12,A.val ((slr false 1 Af) (a0))),(1,A.val ((slr false 1 Af) (b0)))]
def Nq (_a0:List Int) (_b0:List Int):(Unit ⊕ Unit)→Tgt
 | (.inl _s)=>(Ex.ret,[4],[(4,A.val (V.bool (false)))])
 | (.inr _s)=>((Ex.exit 0),[],[])
theorem Wu {a0:List Int} {b0:List Int} (x14:Int) (o:Int ⊕ (Unit ⊕ Unit)) (h:C3 a0 b0 x14=some o):vc Tryd.prog N7 (Gg [14,13,12,1] (I8 a0 b0) (Nq a0 b0) o) (I8 a0 b0 x14):=by
 unfold C3 at h
 try dsimp only at h
 conv=>whnf
 refine Br.od h (fun p2 h=> ?_) (fun p2 h=> ?_)
 ·conv=>whnf
  refine Len.map ?_
  conv=>whnf
  refine Ask.o h fun p3 h=> ?_
  conv=>whnf
  refine Elem.o (by first | omega | (simp [A8] at * <;> omega)) ?_
  conv=>whnf
  refine Len.map ?_
  conv=>whnf
  refine Ask.o h fun p4 h=> ?_
  conv=>whnf
  refine Elem.o (by first | omega | (simp [A8] at * <;> omega)) ?_
  conv=>whnf
  refine Br.on h (fun p5 h=> ?_) (fun p5 h=> ?_)
  ·conv=>whnf
   cases h;exact ⟨rfl,rfl⟩
  conv=>whnf
  refine Ask.o h fun p6 h=> ?_
  conv=>whnf
  cases h;exact ⟨rfl,rfl⟩
 conv=>whnf
 cases h;exact ⟨rfl,rfl⟩
noncomputable def G0 (a0:(List Int)) (b0:(List Int)):Option Bool:=
 if (↑a0.length:Int)≠(↑b0.length:Int) then
 some false
 else
 (A7 (C3 a0 b0) (0:Int)).bind fun t=>match t with
 | (.inl _)=>(some false)
 | (.inr _)=>(some true)
theorem Ab4 {a0:(List Int)} {b0:(List Int)} {v:Bool} (h:G0 a0 b0=some v):Ret Tryd.prog Ma [(slr false 1 Af) a0,(slr false 1 Af) b0] (V.bool v):=by
 refine Bp Abt (Nat.le_of_ble_eq_true rfl) ?_
 unfold G0 at h
 conv=>whnf
 refine Len.map ?_
 conv=>whnf
 refine Len.map ?_
 conv=>whnf
 refine Br.on h (fun p1 h=> ?_) (fun p1 h=> ?_)
 ·conv=>whnf
  cases h;exact (by first | rfl | simp only [Ah,Aa,V.fz,fzL,V.up,upL,Ab,Ac,Ad,slr] | simp [Ah,Aa,V.fz,fzL,V.up,upL,Ab,Ac,Ad,slr])
 conv=>whnf
 refine Len.map ?_
 conv=>whnf
 refine LoopQ.o [14,13,12,1] (I8 a0 b0) (Nq a0 b0) h (fun s o h=>Wu s o h) (by first | rfl | simp [restrict,look,Aa,V.fz,fzL,V.up,upL,Ab,Ac,Ad,slr]) (by rintro (_ | _)<;>rfl) ?_
 rintro (⟨⟩ | ⟨⟩) h
 ·try dsimp only at h
  conv=>whnf
  cases h;exact (by first | rfl | simp only [Ah,Aa,V.fz,fzL,V.up,upL,Ab,Ac,Ad,slr] | simp [Ah,Aa,V.fz,fzL,V.up,upL,Ab,Ac,Ad,slr])
 try dsimp only at h
 conv=>whnf
 cases h;exact (by first | rfl | simp only [Ah,Aa,V.fz,fzL,V.up,upL,Ab,Ac,Ad,slr] | simp [Ah,Aa,V.fz,fzL,V.up,upL,Ab,Ac,Ad,slr])
noncomputable def H3 (l0:(List Int)):Option (List Int):=
 ask ((A4 Int).length+(l0).length≤LIM) <|
 some (A4 Int++l0)
theorem Yv {l0:(List Int)} {v:(List Int)} (h:H3 l0=some v):Ret Tryd.prog Mz [(slr false 1 Af) l0] ((slr true 1 Af) v):=by
 refine Bp Ais (Nat.le_of_ble_eq_true rfl) ?_
 unfold H3 at h
 conv=>whnf
 refine BslQ.o Af (A4 Int) (by exact fun _=>⟨rfl,rfl⟩) (by first | rfl | (simp only [Aa,V.fz,fzL,V.up,upL,Ab,Ac,Ad,slr,List.cons_append,List.nil_append];done) | simp [Aa,V.fz,fzL,V.up,upL,Ab,Ac,Ad,slr]) ?_
 conv=>whnf
 refine AppQ.o (m:=1) Af (by exact fun _=>⟨rfl,rfl⟩) (A4 Int) (l0) (by first | rfl | simp only [Aa,V.fz,fzL,V.up,upL,Ab,Ac,Ad,slr,List.cons_append,List.nil_append] | simp [Aa,V.fz,fzL,V.up,upL,Ab,Ac,Ad,slr]) (by first | rfl | simp only [Aa,V.fz,fzL,V.up,upL,Ab,Ac,Ad,slr,List.cons_append,List.nil_append] | simp [Aa,V.fz,fzL,V.up,upL,Ab,Ac,Ad,slr]) h fun h=> ?_
 conv=>whnf
 cases h;exact (by first | rfl | simp only [Ah,Aa,V.fz,fzL,V.up,upL,Ab,Ac,Ad,slr] | simp [Ah,Aa,V.fz,fzL,V.up,upL,Ab,Ac,Ad,slr])
noncomputable def D3 (a0:List Int) (b0:List Int):Int→Option (Int ⊕ (Unit ⊕ Unit)):=fun x5=>
 if x5<(↑a0.length:Int) then
 ask ((0:Int)≤x5∧x5<(↑a0.length:Int)) <|
 ask ((0:Int)≤x5∧x5<(↑b0.length:Int)) <|
 if nth a0 x5.toNat≠nth b0 x5.toNat then
 some (.inr (.inl ()))
 else
 ask (InI (x5+(1:Int))) <|
 some (.inl (x5+(1:Int)))
 else
 some (.inr (.inr ()))
def K0 (a0:List Int) (b0:List Int):Int→St:=fun s=>[(5,A.val (Af s)),(0,A.val ((slr false 1 Af) (a0))),(1,A.val ((slr false 1 Af) (b0)))]
def Pr (_a0:List Int) (_b0:List Int):(Unit ⊕ Unit)→Tgt
 | (.inl _s)=>(Ex.ret,[4],[(4,A.val (V.bool (false)))])
 | (.inr _s)=>((Ex.exit 0),[],[])
theorem Aab {a0:List Int} {b0:List Int} (x5:Int) (o:Int ⊕ (Unit ⊕ Unit)) (h:D3 a0 b0 x5=some o):vc Tryd.prog Qm (Gg [5,0,1] (K0 a0 b0) (Pr a0 b0) o) (K0 a0 b0 x5):=by
 unfold D3 at h
 try dsimp only at h
 conv=>whnf
 refine Len.map ?_
 conv=>whnf
 refine Br.od h (fun p2 h=> ?_) (fun p2 h=> ?_)
 ·conv=>whnf
  refine Len.map ?_
  conv=>whnf
  refine Ask.o h fun p3 h=> ?_
  conv=>whnf
  refine Elem.o (by first | omega | (simp [A8] at * <;> omega)) ?_
  conv=>whnf
  refine Len.map ?_
  conv=>whnf
  refine Ask.o h fun p4 h=> ?_
  conv=>whnf
  refine Elem.o (by first | omega | (simp [A8] at * <;> omega)) ?_
  conv=>whnf
  refine Br.on h (fun p5 h=> ?_) (fun p5 h=> ?_)
  ·conv=>whnf
   cases h;exact ⟨rfl,rfl⟩
  conv=>whnf
  refine Ask.o h fun p6 h=> ?_
  conv=>whnf
  cases h;exact ⟨rfl,rfl⟩
 conv=>whnf
 cases h;exact ⟨rfl,rfl⟩
noncomputable def Is (a0:(List Int)) (b0:(List Int)):Option Bool:=
 if (↑a0.length:Int)≠(↑b0.length:Int) then
 some false
 else
 (A7 (D3 a0 b0) (0:Int)).bind fun t=>match t with
 | (.inl _)=>(some false)
 | (.inr _)=>(some true)
theorem Afo {a0:(List Int)} {b0:(List Int)} {v:Bool} (h:Is a0 b0=some v):Ret Tryd.prog Ph [(slr false 1 Af) a0,(slr false 1 Af) b0] (V.bool v):=by
 refine Bp Af4 (Nat.le_of_ble_eq_true rfl) ?_
 unfold Is at h
 conv=>whnf
 refine Len.map ?_
 conv=>whnf
 refine Len.map ?_
 conv=>whnf
 refine Br.on h (fun p1 h=> ?_) (fun p1 h=> ?_)
 ·conv=>whnf
  cases h;exact (by first | rfl | simp only [Ah,Aa,V.fz,fzL,V.up,upL,Ab,Ac,Ad,slr] | simp [Ah,Aa,V.fz,fzL,V.up,upL,Ab,Ac,Ad,slr])
 conv=>whnf
 refine LoopQ.o [5,0,1] (K0 a0 b0) (Pr a0 b0) h (fun s o h=>Aab s o h) (by first | rfl | simp [restrict,look,Aa,V.fz,fzL,V.up,upL,Ab,Ac,Ad,slr]) (by rintro (_ | _)<;>rfl) ?_
 rintro (⟨⟩ | ⟨⟩) h
 ·try dsimp only at h
  conv=>whnf
  cases h;exact (by first | rfl | simp only [Ah,Aa,V.fz,fzL,V.up,upL,Ab,Ac,Ad,slr] | simp [Ah,Aa,V.fz,fzL,V.up,upL,Ab,Ac,Ad,slr])
 try dsimp only at h
 conv=>whnf
 cases h;exact (by first | rfl | simp only [Ah,Aa,V.fz,fzL,V.up,upL,Ab,Ac,Ad,slr] | simp [Ah,Aa,V.fz,fzL,V.up,upL,Ab,Ac,Ad,slr])
noncomputable def Bx (s0:List Int) (t0:List Int):Int→Option (Int ⊕ (Int ⊕ Unit)):=fun x5=>
 ((if x5<(↑s0.length:Int) then
 if x5<(↑t0.length:Int) then
 some (.inl ())
 else
 some (.inr ())
 else
 some (.inr ()):Option (Unit ⊕ Unit))).bind fun t=>match t with
 | (.inl _)=>(ask ((0:Int)≤x5∧x5<(↑s0.length:Int)) <|
 ask ((0:Int)≤x5∧x5<(↑t0.length:Int)) <|
 if nth s0 x5.toNat≠nth t0 x5.toNat then
 ask ((0:Int)≤x5∧x5<(↑s0.length:Int)) <|
 ask ((0:Int)≤x5∧x5<(↑t0.length:Int)) <|
 if nth s0 x5.toNat<nth t0 x5.toNat then
 some (.inr (.inl (-1:Int)))
 else
 some (.inr (.inl (1:Int)))
 else
 ask (InI (x5+(1:Int))) <|
 some (.inl (x5+(1:Int))))
 | (.inr _)=>(some (.inr (.inr ())))
def Gp (s0:List Int) (t0:List Int):Int→St:=fun s=>[(5,A.val (Af s)),(0,A.val ((slr false 1 Af) (s0))),(1,A.val ((slr false 1 Af) (t0)))]
def Kb (s0:List Int) (t0:List Int):(Int ⊕ Unit)→Tgt
 | (.inl s)=>(Ex.ret,[4],[(4,A.val (Af s))])
 | (.inr _s)=>((Ex.exit 0),[0,1],[(0,A.val ((slr false 1 Af) (s0))),(1,A.val ((slr false 1 Af) (t0)))])
theorem Q5 {s0:List Int} {t0:List Int} (x5:Int) (o:Int ⊕ (Int ⊕ Unit)) (h:Bx s0 t0 x5=some o):vc Tryd.prog J4 (Gg [5,0,1] (Gp s0 t0) (Kb s0 t0) o) (Gp s0 t0 x5):=by
 unfold Bx at h
 try dsimp only at h
 conv=>whnf
 refine CutQ.o (fun t:(Unit ⊕ Unit)=>match t with | (.inl s)=>(Ex.normal,[5,0,1],[(5,A.val (Af (x5))),(0,A.val ((slr false 1 Af) (s0))),(1,A.val ((slr false 1 Af) (t0)))]) | (.inr s)=>((Ex.exit 0),[0,1],[(0,A.val ((slr false 1 Af) (s0))),(1,A.val ((slr false 1 Af) (t0)))])) h ?_ ?_
 ·intro t h
  conv=>whnf
  refine Len.map ?_
  conv=>whnf
  refine Br.od h (fun p1 h=> ?_) (fun p1 h=> ?_)
  ·conv=>whnf
   refine Br.yes ?_
   conv=>whnf
   refine Br.yes ?_
   conv=>whnf
   refine Len.map ?_
   conv=>whnf
   refine Br.yes ?_
   conv=>whnf
   refine Br.yes ?_
   conv=>whnf
   refine Br.od h (fun p2 h=> ?_) (fun p2 h=> ?_)
   ·conv=>whnf
    cases h;exact ⟨rfl,rfl⟩
   conv=>whnf
   cases h;exact ⟨rfl,rfl⟩
  conv=>whnf
  refine Br.no ?_
  conv=>whnf
  refine Br.no ?_
  conv=>whnf
  refine Br.no ?_
  conv=>whnf
  refine Br.no ?_
  conv=>whnf
  refine Br.no ?_
  conv=>whnf
  cases h;exact ⟨rfl,rfl⟩
 rintro (⟨⟩ | ⟨⟩) h
 ·try dsimp only at h
  conv=>whnf
  refine Len.map ?_
  conv=>whnf
  refine Ask.o h fun p4 h=> ?_
  conv=>whnf
  refine Elem.o (by first | omega | (simp [A8] at * <;> omega)) ?_
  conv=>whnf
  refine Len.map ?_
  conv=>whnf
  refine Ask.o h fun p5 h=> ?_
  conv=>whnf
  refine Elem.o (by first | omega | (simp [A8] at * <;> omega)) ?_
  conv=>whnf
  refine Br.on h (fun p6 h=> ?_) (fun p6 h=> ?_)
  ·conv=>whnf
   refine Len.map ?_
   conv=>whnf
   refine Ask.o h fun p7 h=> ?_
   conv=>whnf
   refine Elem.o (by first | omega | (simp [A8] at * <;> omega)) ?_
   conv=>whnf
   refine Len.map ?_
   conv=>whnf
   refine Ask.o h fun p8 h=> ?_
   conv=>whnf
   refine Elem.o (by first | omega | (simp [A8] at * <;> omega)) ?_
   conv=>whnf
   refine Br.od h (fun p9 h=> ?_) (fun p9 h=> ?_)
   ·conv=>whnf
    cases h;exact ⟨rfl,rfl⟩
   conv=>whnf
   cases h;exact ⟨rfl,rfl⟩
  conv=>whnf
  refine Ask.o h fun p10 h=> ?_
  conv=>whnf
  cases h;exact ⟨rfl,rfl⟩
 try dsimp only at h
 conv=>whnf
 cases h;exact ⟨rfl,rfl⟩
noncomputable def Ej (s0:(List Int)) (t0:(List Int)):Option Int:=
 (A7 (Bx s0 t0) (0:Int)).bind fun t=>match t with
 | (.inl q11_4)=>(some q11_4)
 | (.inr _)=>(if (↑s0.length:Int)<(↑t0.length:Int) then
 some (-1:Int)
 else
 if (↑s0.length:Int)>(↑t0.length:Int) then
 some (1:Int)
 else
 some (0:Int))
theorem Ug {s0:(List Int)} {t0:(List Int)} {v:Int} (h:Ej s0 t0=some v):Ret Tryd.prog Id [(slr false 1 Af) s0,(slr false 1 Af) t0] (Af v):=by
 refine Bp Vx (Nat.le_of_ble_eq_true rfl) ?_
 unfold Ej at h
 conv=>whnf
 refine LoopQ.o [5,0,1] (Gp s0 t0) (Kb s0 t0) h (fun s o h=>Q5 s o h) (by first | rfl | simp [restrict,look,Aa,V.fz,fzL,V.up,upL,Ab,Ac,Ad,slr]) (by rintro (_ | _)<;>rfl) ?_
 rintro (q11_4 | ⟨⟩) h
 ·try dsimp only at h
  conv=>whnf
  cases h;exact (by first | rfl | simp only [Ah,Aa,V.fz,fzL,V.up,upL,Ab,Ac,Ad,slr] | simp [Ah,Aa,V.fz,fzL,V.up,upL,Ab,Ac,Ad,slr])
 try dsimp only at h
 conv=>whnf
 refine Len.map ?_
 conv=>whnf
 refine Len.map ?_
 conv=>whnf
 refine Br.od h (fun p12 h=> ?_) (fun p12 h=> ?_)
 ·conv=>whnf
  cases h;exact (by first | rfl | simp only [Ah,Aa,V.fz,fzL,V.up,upL,Ab,Ac,Ad,slr] | simp [Ah,Aa,V.fz,fzL,V.up,upL,Ab,Ac,Ad,slr])
 conv=>whnf
 refine Len.map ?_
 conv=>whnf
 refine Len.map ?_
 conv=>whnf
 refine Br.od h (fun p13 h=> ?_) (fun p13 h=> ?_)
 ·conv=>whnf
  cases h;exact (by first | rfl | simp only [Ah,Aa,V.fz,fzL,V.up,upL,Ab,Ac,Ad,slr] | simp [Ah,Aa,V.fz,fzL,V.up,upL,Ab,Ac,Ad,slr])
 conv=>whnf
 cases h;exact (by first | rfl | simp only [Ah,Aa,V.fz,fzL,V.up,upL,Ab,Ac,Ad,slr] | simp [Ah,Aa,V.fz,fzL,V.up,upL,Ab,Ac,Ad,slr])
noncomputable def C8 (a0:List Int) (b0:List Int):Int→Option (Int ⊕ (Bool ⊕ Unit)):=fun x5=>
 if x5<(↑a0.length:Int) then
 ask ((0:Int)≤x5∧x5<(↑a0.length:Int)) <|
 ask ((0:Int)≤x5∧x5<(↑b0.length:Int)) <|
 if nth a0 x5.toNat≠nth b0 x5.toNat then
 ask ((0:Int)≤x5∧x5<(↑a0.length:Int)) <|
 ask ((0:Int)≤x5∧x5<(↑b0.length:Int)) <|
 some (.inr (.inl (decide (nth a0 x5.toNat<nth b0 x5.toNat))))
 else
 ask (InI (x5+(1:Int))) <|
 some (.inl (x5+(1:Int)))
 else
 some (.inr (.inr ()))
def Ks (a0:List Int) (b0:List Int):Int→St:=fun s=>[(5,A.val (Af s)),(0,A.val ((slr false 1 Af) (a0))),(1,A.val ((slr false 1 Af) (b0)))]
def Qq (_a0:List Int) (_b0:List Int):(Bool ⊕ Unit)→Tgt
 | (.inl s)=>(Ex.ret,[4],[(4,A.val (V.bool s))])
 | (.inr _s)=>((Ex.exit 0),[],[])
theorem Y2 {a0:List Int} {b0:List Int} (x5:Int) (o:Int ⊕ (Bool ⊕ Unit)) (h:C8 a0 b0 x5=some o):vc Tryd.prog P6 (Gg [5,0,1] (Ks a0 b0) (Qq a0 b0) o) (Ks a0 b0 x5):=by
 unfold C8 at h
 try dsimp only at h
 conv=>whnf
 refine Len.map ?_
 conv=>whnf
 refine Br.od h (fun p1 h=> ?_) (fun p1 h=> ?_)
 ·conv=>whnf
  refine Len.map ?_
  conv=>whnf
  refine Ask.o h fun p2 h=> ?_
  conv=>whnf
  refine Elem.o (by first | omega | (simp [A8] at * <;> omega)) ?_
  conv=>whnf
  refine Len.map ?_
  conv=>whnf
  refine Ask.o h fun p3 h=> ?_
  conv=>whnf
  refine Elem.o (by first | omega | (simp [A8] at * <;> omega)) ?_
  conv=>whnf
  refine Br.on h (fun p4 h=> ?_) (fun p4 h=> ?_)
  ·conv=>whnf
   refine Len.map ?_
   conv=>whnf
   refine Ask.o h fun p5 h=> ?_
   conv=>whnf
   refine Elem.o (by first | omega | (simp [A8] at * <;> omega)) ?_
   conv=>whnf
   refine Len.map ?_
   conv=>whnf
   refine Ask.o h fun p6 h=> ?_
   conv=>whnf
   refine Elem.o (by first | omega | (simp [A8] at * <;> omega)) ?_
   conv=>whnf
   cases h;exact ⟨rfl,rfl⟩
  conv=>whnf
  refine Ask.o h fun p7 h=> ?_
  conv=>whnf
  cases h;exact ⟨rfl,rfl⟩
 conv=>whnf
 cases h;exact ⟨rfl,rfl⟩
noncomputable def Im (a0:(List Int)) (b0:(List Int)):Option Bool:=
 (A7 (C8 a0 b0) (0:Int)).bind fun t=>match t with
 | (.inl q8_4)=>(some q8_4)
 | (.inr _)=>(some false)
theorem Af3 {a0:(List Int)} {b0:(List Int)} {v:Bool} (h:Im a0 b0=some v):Ret Tryd.prog Pm [(slr false 1 Af) a0,(slr false 1 Af) b0] (V.bool v):=by
 refine Bp Agj (Nat.le_of_ble_eq_true rfl) ?_
 unfold Im at h
 conv=>whnf
 refine LoopQ.o [5,0,1] (Ks a0 b0) (Qq a0 b0) h (fun s o h=>Y2 s o h) (by first | rfl | simp [restrict,look,Aa,V.fz,fzL,V.up,upL,Ab,Ac,Ad,slr]) (by rintro (_ | _)<;>rfl) ?_
 rintro (q8_4 | ⟨⟩) h
 ·try dsimp only at h
  conv=>whnf
  cases h;exact (by first | rfl | simp only [Ah,Aa,V.fz,fzL,V.up,upL,Ab,Ac,Ad,slr] | simp [Ah,Aa,V.fz,fzL,V.up,upL,Ab,Ac,Ad,slr])
 try dsimp only at h
 conv=>whnf
 cases h;exact (by first | rfl | simp only [Ah,Aa,V.fz,fzL,V.up,upL,Ab,Ac,Ad,slr] | simp [Ah,Aa,V.fz,fzL,V.up,upL,Ab,Ac,Ad,slr])
noncomputable def E1 (x0:Int) (a0:Int) (b0:Int):Option Bool:=
 if x0≥a0 then
 some (decide (x0≤b0))
 else
 some false
theorem Om {x0:Int} {a0:Int} {b0:Int} {v:Bool} (h:E1 x0 a0 b0=some v):Ret Tryd.prog Jb [Af x0,Af a0,Af b0] (V.bool v):=by
 refine Bp Ale (Nat.le_of_ble_eq_true rfl) ?_
 unfold E1 at h
 conv=>whnf
 refine Br.od h (fun p1 h=> ?_) (fun p1 h=> ?_)
 ·conv=>whnf
  refine Br.yes ?_
  conv=>whnf
  refine Br.yes ?_
  conv=>whnf
  refine Br.yes ?_
  conv=>whnf
  cases h;exact (by first | rfl | simp only [Ah,Aa,V.fz,fzL,V.up,upL,Ab,Ac,Ad,slr] | simp [Ah,Aa,V.fz,fzL,V.up,upL,Ab,Ac,Ad,slr])
 conv=>whnf
 refine Br.no ?_
 conv=>whnf
 refine Br.no ?_
 conv=>whnf
 refine Br.no ?_
 conv=>whnf
 cases h;exact (by first | rfl | simp only [Ah,Aa,V.fz,fzL,V.up,upL,Ab,Ac,Ad,slr] | simp [Ah,Aa,V.fz,fzL,V.up,upL,Ab,Ac,Ad,slr])
noncomputable def Ef (n0:Int):(Int×Int)→Option ((Int×Int) ⊕ Int):=fun (x5,x1)=>
 if x1>(0:Int) then
 ask (InI (x5*n0)) <|
 ask (InI (x1-(1:Int))) <|
 some (.inl (x5*n0,x1-(1:Int)))
 else
 some (.inr x5)
def Me (n0:Int):(Int×Int)→St:=fun s=>[(5,A.val (Af s.1)),(0,A.val (Af (n0))),(1,A.val (Af s.2))]
def Rv (_n0:Int):Int→Tgt
 | s=>((Ex.exit 0),[5],[(5,A.val (Af s))])
theorem Abn {n0:Int} (s:(Int×Int)) (o:(Int×Int) ⊕ Int) (h:Ef n0 s=some o):vc Tryd.prog Ru (Gg [5,0,1] (Me n0) (Rv n0) o) (Me n0 s):=by
 obtain ⟨x5,x1⟩:=s
 unfold Ef at h
 try dsimp only at h
 conv=>whnf
 refine Br.od h (fun p1 h=> ?_) (fun p1 h=> ?_)
 ·conv=>whnf
  refine Ask.o h fun p2 h=> ?_
  conv=>whnf
  refine Ask.o h fun p3 h=> ?_
  conv=>whnf
  cases h;exact ⟨rfl,rfl⟩
 conv=>whnf
 cases h;exact ⟨rfl,rfl⟩
noncomputable def Hy (n0:Int) (k0:Int):Option Int:=
 (A7 (Ef n0) ((1:Int),k0)).bind fun q4_5=>
 some q4_5
theorem Ah9 {n0:Int} {k0:Int} {v:Int} (h:Hy n0 k0=some v):Ret Tryd.prog Ri [Af n0,Af k0] (Af v):=by
 refine Bp Aik (Nat.le_of_ble_eq_true rfl) ?_
 unfold Hy at h
 conv=>whnf
 refine LoopQ.o [5,0,1] (Me n0) (Rv n0) h (fun s o h=>Abn s o h) (by first | rfl | simp [restrict,look,Aa,V.fz,fzL,V.up,upL,Ab,Ac,Ad,slr]) (fun _=>rfl) ?_
 rintro q4_5 h
 try dsimp only at h
 conv=>whnf
 cases h;exact (by first | rfl | simp only [Ah,Aa,V.fz,fzL,V.up,upL,Ab,Ac,Ad,slr] | simp [Ah,Aa,V.fz,fzL,V.up,upL,Ab,Ac,Ad,slr])
noncomputable def E6 (s0:ByteArray):(Int×SOp)→Option ((Int×SOp) ⊕ SOp):=fun (x4,x3)=>
 if x4<(↑s0.size:Int) then
 ask ((0:Int)≤x4∧x4<(↑s0.size:Int)) <|
 ask ((x3.Table).length+([IntKind.i64.wrap (IntKind.u8.wrap (Cz s0 x4-(48:Int)))]).length≤LIM) <|
 ask (InI (x4+(1:Int))) <|
 some (.inl (x4+(1:Int),{ Arity:=x3.Arity,Table:=x3.Table++[IntKind.i64.wrap (IntKind.u8.wrap (Cz s0 x4-(48:Int)))] }))
 else
 some (.inr x3)
def I3 (s0:ByteArray):(Int×SOp)→St:=fun s=>[(4,A.val (Af s.1)),(3,A.val ((rP true (Bi true)) s.2)),(2,A.val ((rP true (Bi true)) ({ Arity:=(0:Int),Table:=A4 Int }))),(0,A.val (V.str (s0)))]
def Nc (_s0:ByteArray):SOp→Tgt
 | s=>((Ex.exit 0),[3,2],[(3,A.val ((rP true (Bi true)) s)),(2,A.val ((rP true (Bi true)) ({ Arity:=(0:Int),Table:=A4 Int })))])
theorem W6 {s0:ByteArray} (s:(Int×SOp)) (o:(Int×SOp) ⊕ SOp) (h:E6 s0 s=some o):vc Tryd.prog Nf (Gg [4,3,2,0] (I3 s0) (Nc s0) o) (I3 s0 s):=by
 obtain ⟨x4,x3⟩:=s
 unfold E6 at h
 try dsimp only at h
 conv=>whnf
 refine Br.od h (fun p1 h=> ?_) (fun p1 h=> ?_)
 ·conv=>whnf
  refine Cells.lit rfl rfl ?_
  conv=>whnf
  refine Ask.o h fun p2 h=> ?_
  conv=>whnf
  refine BslQ.o Af ([IntKind.i64.wrap (IntKind.u8.wrap (Cz s0 x4-(48:Int)))]) (by exact fun _=>⟨rfl,rfl⟩) (by first | rfl | (simp only [Aa,V.fz,fzL,V.up,upL,Ab,Ac,Ad,slr,List.cons_append,List.nil_append];done) | simp [Aa,V.fz,fzL,V.up,upL,Ab,Ac,Ad,slr]) ?_
  conv=>whnf
  refine NoOwn.o (fun _=>rfl) ?_
  conv=>whnf
  refine Kid.lit rfl rfl ?_
  conv=>whnf
  refine Kid.lit rfl rfl ?_
  conv=>whnf
  refine SetKids.lit rfl ?_
  conv=>whnf
  refine AppQ.o (m:=1) Af (by exact fun _=>⟨rfl,rfl⟩) (x3.Table) ([IntKind.i64.wrap (IntKind.u8.wrap (Cz s0 x4-(48:Int)))]) (by first | rfl | simp only [Aa,V.fz,fzL,V.up,upL,Ab,Ac,Ad,slr,List.cons_append,List.nil_append] | simp [Aa,V.fz,fzL,V.up,upL,Ab,Ac,Ad,slr]) (by first | rfl | simp only [Aa,V.fz,fzL,V.up,upL,Ab,Ac,Ad,slr,List.cons_append,List.nil_append] | simp [Aa,V.fz,fzL,V.up,upL,Ab,Ac,Ad,slr]) h fun h=> ?_
  conv=>whnf
  refine SetKids.lit rfl ?_
  conv=>whnf
  refine Ask.o h fun p3 h=> ?_
  conv=>whnf
  cases h;exact ⟨rfl,rfl⟩
 conv=>whnf
 cases h;exact ⟨rfl,rfl⟩
noncomputable def Bb (s0:ByteArray):Option SOp:=
 (A7 (E6 s0) ((0:Int),{ Arity:=(2:Int),Table:=A4 Int })).bind fun q4_3=>
 some q4_3
theorem Bm {s0:ByteArray} {v:SOp} (h:Bb s0=some v):Ret Tryd.prog Bf [V.str s0] ((Bi true) v):=by
 refine Bp Ace (Nat.le_of_ble_eq_true rfl) ?_
 unfold Bb at h
 conv=>whnf
 refine SetKids.lit rfl ?_
 conv=>whnf
 refine LoopQ.o [4,3,2,0] (I3 s0) (Nc s0) h (fun s o h=>W6 s o h) (by first | rfl | simp [restrict,look,Aa,V.fz,fzL,V.up,upL,Ab,Ac,Ad,slr]) (fun _=>rfl) ?_
 rintro q4_3 h
 try dsimp only at h
 conv=>whnf
 refine Cells.lit rfl rfl ?_
 conv=>whnf
 refine SetKids.lit rfl ?_
 conv=>whnf
 cases h;exact (by first | rfl | simp only [Ah,Aa,V.fz,fzL,V.up,upL,Ab,Ac,Ad,slr] | simp [Ah,Aa,V.fz,fzL,V.up,upL,Ab,Ac,Ad,slr])
noncomputable def Fc (n0:Int):(Int×SOp)→Option ((Int×SOp) ⊕ SOp):=fun (x4,x3)=>
 ask (InI (n0*n0)) <|
 ask (InI (n0*n0*n0)) <|
 if x4<n0*n0*n0 then
 ask (InI (n0*n0)) <|
 ask (n0*n0≠(0:Int)∧InI (x4.tdiv (n0*n0))) <|
 ask (InI (x4.tdiv (n0*n0)+n0)) <|
 ask (n0≠(0:Int)∧InI (x4.tdiv n0)) <|
 ask (n0≠(0:Int)) <|
 ask (InI (x4.tdiv (n0*n0)+n0-(x4.tdiv n0).tmod n0)) <|
 ask (n0≠(0:Int)) <|
 ask (InI (x4.tdiv (n0*n0)+n0-(x4.tdiv n0).tmod n0+x4.tmod n0)) <|
 ask (n0≠(0:Int)) <|
 ask ((x3.Table).length+([(x4.tdiv (n0*n0)+n0-(x4.tdiv n0).tmod n0+x4.tmod n0).tmod n0]).length≤LIM) <|
 ask (InI (x4+(1:Int))) <|
 some (.inl (x4+(1:Int),{ Arity:=x3.Arity,Table:=x3.Table++[(x4.tdiv (n0*n0)+n0-(x4.tdiv n0).tmod n0+x4.tmod n0).tmod n0] }))
 else
 some (.inr x3)
def I7 (n0:Int):(Int×SOp)→St:=fun s=>[(4,A.val (Af s.1)),(3,A.val ((rP true (Bi true)) s.2)),(2,A.val ((rP true (Bi true)) ({ Arity:=(0:Int),Table:=A4 Int }))),(0,A.val (Af (n0)))]
def N1 (_n0:Int):SOp→Tgt
 | s=>((Ex.exit 0),[3,2],[(3,A.val ((rP true (Bi true)) s)),(2,A.val ((rP true (Bi true)) ({ Arity:=(0:Int),Table:=A4 Int })))])
theorem W2 {n0:Int} (s:(Int×SOp)) (o:(Int×SOp) ⊕ SOp) (h:Fc n0 s=some o):vc Tryd.prog Nd (Gg [4,3,2,0] (I7 n0) (N1 n0) o) (I7 n0 s):=by
 obtain ⟨x4,x3⟩:=s
 unfold Fc at h
 try dsimp only at h
 conv=>whnf
 refine Ask.o h fun p1 h=> ?_
 conv=>whnf
 refine Ask.o h fun p2 h=> ?_
 conv=>whnf
 refine Br.od h (fun p3 h=> ?_) (fun p3 h=> ?_)
 ·conv=>whnf
  refine Cells.lit rfl rfl ?_
  conv=>whnf
  refine Ask.o h fun p4 h=> ?_
  conv=>whnf
  refine Ask.o h fun p5 h=> ?_
  conv=>whnf
  refine Ask.o h fun p6 h=> ?_
  conv=>whnf
  refine Ask.o h fun p7 h=> ?_
  conv=>whnf
  refine Ask.o h fun p8 h=> ?_
  conv=>whnf
  refine Ask.o h fun p9 h=> ?_
  conv=>whnf
  refine Ask.o h fun p10 h=> ?_
  conv=>whnf
  refine Ask.o h fun p11 h=> ?_
  conv=>whnf
  refine Ask.o h fun p12 h=> ?_
  conv=>whnf
  refine BslQ.o Af ([(x4.tdiv (n0*n0)+n0-(x4.tdiv n0).tmod n0+x4.tmod n0).tmod n0]) (by exact fun _=>⟨rfl,rfl⟩) (by first | rfl | (simp only [Aa,V.fz,fzL,V.up,upL,Ab,Ac,Ad,slr,List.cons_append,List.nil_append];done) | simp [Aa,V.fz,fzL,V.up,upL,Ab,Ac,Ad,slr]) ?_
  conv=>whnf
  refine NoOwn.o (fun _=>rfl) ?_
  conv=>whnf
  refine Kid.lit rfl rfl ?_
  conv=>whnf
  refine Kid.lit rfl rfl ?_
  conv=>whnf
  refine SetKids.lit rfl ?_
  conv=>whnf
  refine AppQ.o (m:=1) Af (by exact fun _=>⟨rfl,rfl⟩) (x3.Table) ([(x4.tdiv (n0*n0)+n0-(x4.tdiv n0).tmod n0+x4.tmod n0).tmod n0]) (by first | rfl | simp only [Aa,V.fz,fzL,V.up,upL,Ab,Ac,Ad,slr,List.cons_append,List.nil_append] | simp [Aa,V.fz,fzL,V.up,upL,Ab,Ac,Ad,slr]) (by first | rfl | simp only [Aa,V.fz,fzL,V.up,upL,Ab,Ac,Ad,slr,List.cons_append,List.nil_append] | simp [Aa,V.fz,fzL,V.up,upL,Ab,Ac,Ad,slr]) h fun h=> ?_
  conv=>whnf
  refine SetKids.lit rfl ?_
  conv=>whnf
  refine Ask.o h fun p13 h=> ?_
  conv=>whnf
  cases h;exact ⟨rfl,rfl⟩
 conv=>whnf
 cases h;exact ⟨rfl,rfl⟩
noncomputable def Fi (n0:Int):Option SOp:=
 (A7 (Fc n0) ((0:Int),{ Arity:=(3:Int),Table:=A4 Int })).bind fun q14_3=>
 some q14_3
theorem Rx {n0:Int} {v:SOp} (h:Fi n0=some v):Ret Tryd.prog I1 [Af n0] ((Bi true) v):=by
 refine Bp Abe (Nat.le_of_ble_eq_true rfl) ?_
 unfold Fi at h
 conv=>whnf
 refine SetKids.lit rfl ?_
 conv=>whnf
 refine LoopQ.o [4,3,2,0] (I7 n0) (N1 n0) h (fun s o h=>W2 s o h) (by first | rfl | simp [restrict,look,Aa,V.fz,fzL,V.up,upL,Ab,Ac,Ad,slr]) (fun _=>rfl) ?_
 rintro q14_3 h
 try dsimp only at h
 conv=>whnf
 refine Cells.lit rfl rfl ?_
 conv=>whnf
 refine SetKids.lit rfl ?_
 conv=>whnf
 cases h;exact (by first | rfl | simp only [Ah,Aa,V.fz,fzL,V.up,upL,Ab,Ac,Ad,slr] | simp [Ah,Aa,V.fz,fzL,V.up,upL,Ab,Ac,Ad,slr])
noncomputable def Ed (c0:Sl1Cur):Option (Int×Sl1Cur):=
 ((if c0.at_<(↑c0.code.length:Int) then
 ask ((0:Int)≤c0.at_∧c0.at_<(↑c0.code.length:Int)) <|
 some (IntKind.i64.wrap (nth c0.code c0.at_.toNat))
 else
 some (0:Int):Option Int)).bind fun q3_3=>
 ask (InI (c0.at_+(1:Int))) <|
 if c0.at_+(1:Int)≤(↑c0.code.length:Int) then
 some (q3_3,{ code:=c0.code,at_:=c0.at_+(1:Int),seed:=IntKind.u64.wrap (IntKind.u64.wrap (IntKind.u64.wrap (c0.seed*(6364136223846793005:Int))+IntKind.u64.wrap q3_3)+(550289:Int)) })
 else
 some (IntKind.i64.wrap (IntKind.u64.wrap (↑(BitVec.ofInt IntKind.u64.bits ((IntKind.u64.wrap (IntKind.u64.wrap (IntKind.u64.wrap (c0.seed*(6364136223846793005:Int))+IntKind.u64.wrap q3_3)+(550289:Int))).fdiv ((2:Int)^min (Int.toNat (40:Int)) IntKind.u64.bits)) &&& BitVec.ofInt IntKind.u64.bits (255:Int)).toNat:Int)),{ code:=c0.code,at_:=c0.at_+(1:Int),seed:=IntKind.u64.wrap (IntKind.u64.wrap (IntKind.u64.wrap (c0.seed*(6364136223846793005:Int))+IntKind.u64.wrap q3_3)+(550289:Int)) })
theorem Oj {c0:Sl1Cur} {v:(Int×Sl1Cur)} (h:Ed c0=some v):Iq Tryd.prog G7 [(rP true (Aj false)) c0] (Af v.1) 0 ((rP true (Aj false)) v.2):=by
 refine M5 X9 (Nat.le_of_ble_eq_true rfl) ?_
 unfold Ed at h
 conv=>whnf
 refine CutQ.o (fun t:Int=>match t with | s=>(Ex.normal,[3,0,62],[(3,A.val (Af s)),(0,A.ref 62 []),(62,A.val ((rP true (Aj false)) (c0)))])) h ?_ ?_
 ·intro t h
  conv=>whnf
  refine Cells.lit rfl rfl ?_
  conv=>whnf
  refine Cells.lit rfl rfl ?_
  conv=>whnf
  refine Len.map ?_
  conv=>whnf
  refine Br.od h (fun p1 h=> ?_) (fun p1 h=> ?_)
  ·conv=>whnf
   refine Cells.lit rfl rfl ?_
   conv=>whnf
   refine Cells.lit rfl rfl ?_
   conv=>whnf
   refine Len.map ?_
   conv=>whnf
   refine Ask.o h fun p2 h=> ?_
   conv=>whnf
   refine Elem.o (by first | omega | (simp [A8] at * <;> omega)) ?_
   conv=>whnf
   cases h;exact ⟨rfl,rfl⟩
  conv=>whnf
  cases h;exact ⟨rfl,rfl⟩
 rintro q3_3 h
 try dsimp only at h
 conv=>whnf
 refine Cells.lit rfl rfl ?_
 conv=>whnf
 refine Ask.o h fun p4 h=> ?_
 conv=>whnf
 refine SetKids.lit rfl ?_
 conv=>whnf
 refine Cells.lit rfl rfl ?_
 conv=>whnf
 refine SetKids.lit rfl ?_
 conv=>whnf
 refine Cells.lit rfl rfl ?_
 conv=>whnf
 refine Cells.lit rfl rfl ?_
 conv=>whnf
 refine Len.map ?_
 conv=>whnf
 refine Br.od h (fun p5 h=> ?_) (fun p5 h=> ?_)
 ·conv=>whnf
  cases h;exact ⟨(by first | rfl | simp only [Ah,Aa,V.fz,fzL,V.up,upL,Ab,Ac,Ad,slr] | simp [Ah,Aa,V.fz,fzL,V.up,upL,Ab,Ac,Ad,slr]),(by first | rfl | simp only [Ah,Aa,V.fz,fzL,V.up,upL,Ab,Ac,Ad,slr] | simp [Ah,Aa,V.fz,fzL,V.up,upL,Ab,Ac,Ad,slr])⟩
 conv=>whnf
 refine Cells.lit rfl rfl ?_
 conv=>whnf
 cases h;exact ⟨(by first | rfl | simp only [Ah,Aa,V.fz,fzL,V.up,upL,Ab,Ac,Ad,slr] | simp [Ah,Aa,V.fz,fzL,V.up,upL,Ab,Ac,Ad,slr]),(by first | rfl | simp only [Ah,Aa,V.fz,fzL,V.up,upL,Ab,Ac,Ad,slr] | simp [Ah,Aa,V.fz,fzL,V.up,upL,Ab,Ac,Ad,slr])⟩
noncomputable def Dx (a0:List (List Int)) (b0:List (List Int)):Int→Option (Int ⊕ (Unit ⊕ Unit)):=fun x5=>
 if x5<(↑a0.length:Int) then
 ask ((0:Int)≤x5∧x5<(↑a0.length:Int)) <|
 ask ((0:Int)≤x5∧x5<(↑b0.length:Int)) <|
 (D7 (nth a0 x5.toNat) (nth b0 x5.toNat)).bind fun r5=>
 if (r5)=true then
 ask (InI (x5+(1:Int))) <|
 some (.inl (x5+(1:Int)))
 else
 some (.inr (.inl ()))
 else
 some (.inr (.inr ()))
def Kp (a0:List (List Int)) (b0:List (List Int)):Int→St:=fun s=>[(5,A.val (Af s)),(0,A.val ((slr false 1 (slr false 1 Af)) (a0))),(1,A.val ((slr false 1 (slr false 1 Af)) (b0)))]
def Pv (_a0:List (List Int)) (_b0:List (List Int)):(Unit ⊕ Unit)→Tgt
 | (.inl _s)=>(Ex.ret,[4],[(4,A.val (V.bool (false)))])
 | (.inr _s)=>((Ex.exit 0),[],[])
theorem Zp {a0:List (List Int)} {b0:List (List Int)} (x5:Int) (o:Int ⊕ (Unit ⊕ Unit)) (h:Dx a0 b0 x5=some o):vc Tryd.prog Pw (Gg [5,0,1] (Kp a0 b0) (Pv a0 b0) o) (Kp a0 b0 x5):=by
 unfold Dx at h
 try dsimp only at h
 conv=>whnf
 refine Len.map ?_
 conv=>whnf
 refine Br.od h (fun p2 h=> ?_) (fun p2 h=> ?_)
 ·conv=>whnf
  refine Len.map ?_
  conv=>whnf
  refine Ask.o h fun p3 h=> ?_
  conv=>whnf
  refine Elem.o (by first | omega | (simp [A8] at * <;> omega)) ?_
  conv=>whnf
  refine Len.map ?_
  conv=>whnf
  refine Ask.o h fun p4 h=> ?_
  conv=>whnf
  refine Elem.o (by first | omega | (simp [A8] at * <;> omega)) ?_
  conv=>whnf
  refine CallQ.o V.bool (by first | rfl | simp only [Aa,V.fz,fzL,V.up,upL,Ab,Ac,Ad,slr,List.cons_append,List.nil_append] | simp [Aa,V.fz,fzL,V.up,upL,Ab,Ac,Ad,slr]) h (fun r h=>H5 h) (fun r5 h=> ?_)
  conv=>whnf
  refine Br.flip ?_
  conv=>whnf
  refine Br.ob h (fun p6 h=> ?_) (fun p6 h=> ?_)
  ·conv=>whnf
   refine Ask.o h fun p7 h=> ?_
   conv=>whnf
   cases h;exact ⟨rfl,rfl⟩
  conv=>whnf
  cases h;exact ⟨rfl,rfl⟩
 conv=>whnf
 cases h;exact ⟨rfl,rfl⟩
noncomputable def It (a0:(List (List Int))) (b0:(List (List Int))):Option Bool:=
 if (↑a0.length:Int)≠(↑b0.length:Int) then
 some false
 else
 (A7 (Dx a0 b0) (0:Int)).bind fun t=>match t with
 | (.inl _)=>(some false)
 | (.inr _)=>(some true)
theorem Afw {a0:(List (List Int))} {b0:(List (List Int))} {v:Bool} (h:It a0 b0=some v):Ret Tryd.prog Pk [(slr false 1 (slr false 1 Af)) a0,(slr false 1 (slr false 1 Af)) b0] (V.bool v):=by
 refine Bp Af7 (Nat.le_of_ble_eq_true rfl) ?_
 unfold It at h
 conv=>whnf
 refine Len.map ?_
 conv=>whnf
 refine Len.map ?_
 conv=>whnf
 refine Br.on h (fun p1 h=> ?_) (fun p1 h=> ?_)
 ·conv=>whnf
  cases h;exact (by first | rfl | simp only [Ah,Aa,V.fz,fzL,V.up,upL,Ab,Ac,Ad,slr] | simp [Ah,Aa,V.fz,fzL,V.up,upL,Ab,Ac,Ad,slr])
 conv=>whnf
 refine LoopQ.o [5,0,1] (Kp a0 b0) (Pv a0 b0) h (fun s o h=>Zp s o h) (by first | rfl | simp [restrict,look,Aa,V.fz,fzL,V.up,upL,Ab,Ac,Ad,slr]) (by rintro (_ | _)<;>rfl) ?_
 rintro (⟨⟩ | ⟨⟩) h
 ·try dsimp only at h
  conv=>whnf
  cases h;exact (by first | rfl | simp only [Ah,Aa,V.fz,fzL,V.up,upL,Ab,Ac,Ad,slr] | simp [Ah,Aa,V.fz,fzL,V.up,upL,Ab,Ac,Ad,slr])
 try dsimp only at h
 conv=>whnf
 cases h;exact (by first | rfl | simp only [Ah,Aa,V.fz,fzL,V.up,upL,Ab,Ac,Ad,slr] | simp [Ah,Aa,V.fz,fzL,V.up,upL,Ab,Ac,Ad,slr])
noncomputable def D8 (a0:SAlgebra) (t0:(List Int)):Option Bool:=
 if (↑t0.length:Int)≤(60:Int) then
 (Gq (a0) (t0) ((0:Int))).bind fun r2=>
 some (r2==(↑t0.length:Int))
 else
 some false
theorem Io {a0:SAlgebra} {t0:(List Int)} {v:Bool} (h:D8 a0 t0=some v):Ret Tryd.prog Ft [(Ag false) a0,(slr false 1 Af) t0] (V.bool v):=by
 refine Bp Afg (Nat.le_of_ble_eq_true rfl) ?_
 unfold D8 at h
 conv=>whnf
 refine Len.map ?_
 conv=>whnf
 refine Br.od h (fun p1 h=> ?_) (fun p1 h=> ?_)
 ·conv=>whnf
  refine Cells.lit rfl rfl ?_
  conv=>whnf
  refine Br.yes ?_
  conv=>whnf
  refine Br.yes ?_
  conv=>whnf
  refine CallQ.o Af (by first | rfl | simp only [Aa,V.fz,fzL,V.up,upL,Ab,Ac,Ad,slr,List.cons_append,List.nil_append] | simp [Aa,V.fz,fzL,V.up,upL,Ab,Ac,Ad,slr]) h (fun r h=>Xh h) (fun r2 h=> ?_)
  conv=>whnf
  refine Br.yes ?_
  conv=>whnf
  refine Br.yes ?_
  conv=>whnf
  refine Len.map ?_
  conv=>whnf
  refine Br.yes ?_
  conv=>whnf
  refine Br.yes ?_
  conv=>whnf
  cases h;exact (by first | rfl | simp only [Ah,Aa,V.fz,fzL,V.up,upL,Ab,Ac,Ad,slr] | simp [Ah,Aa,V.fz,fzL,V.up,upL,Ab,Ac,Ad,slr])
 conv=>whnf
 refine Br.no ?_
 conv=>whnf
 refine Br.no ?_
 conv=>whnf
 refine Br.no ?_
 conv=>whnf
 refine Br.no ?_
 conv=>whnf
 refine Br.no ?_
 conv=>whnf
 refine Br.no ?_
 conv=>whnf
 cases h;exact (by first | rfl | simp only [Ah,Aa,V.fz,fzL,V.up,upL,Ab,Ac,Ad,slr] | simp [Ah,Aa,V.fz,fzL,V.up,upL,Ab,Ac,Ad,slr])
end Go.Proofs.YtbnoclklhcbidaaDoor.Ax
