/-
 What the functions compute, as functions on plain data, and that the program does compute it; written by program.
-/
import Derived.Test.YtjcekpmojnnmbaaGreatCode
import Derived.Test.YtjcekpmojnnmbaaGreatSo5
import Derived.Test.YtjcekpmojnnmbaaGreatG1
import Derived.Test.YtjcekpmojnnmbaaGreatG2
import Derived.Test.YtjcekpmojnnmbaaGreatG3
import Derived.Test.YtjcekpmojnnmbaaGreatG4
namespace Go.Proofs.YtjcekpmojnnmbaaGreat.Ax
open Go
set_option maxRecDepth 100000
set_option maxHeartbeats 4000000
noncomputable def Hf (n0:Int) (r0:SRelation):Option Bool:=
 (Nq (n0)).bind fun r1=>
 if (r1)=true then
 (Ep (n0) (r0)).bind fun r3=>
 some r3
 else
 some false
theorem Abl {n0:Int} {r0:SRelation} {v:Bool} (h:Hf n0 r0=some v):Ret Tryz.prog K3 [Ae n0,(Ai false) r0] (V.bool v):=by
 refine A5 Abi (Nat.le_of_ble_eq_true rfl) ?_
 unfold Hf at h
 conv=>whnf
 refine CallQ.o V.bool (by first | rfl | simp only [Aa,V.fz,fzL,V.up,upL,Ab,Ac,Ad,slr,List.cons_append,List.nil_append] | simp [Aa,V.fz,fzL,V.up,upL,Ab,Ac,Ad,slr]) h (fun r h=>Ak9 h) (fun r1 h=> ?_)
 conv=>whnf
 refine Br.ob h (fun p2 h=> ?_) (fun p2 h=> ?_)
 ·conv=>whnf
  refine Br.yes ?_
  conv=>whnf
  refine Cells.lit rfl rfl ?_
  conv=>whnf
  refine Br.yes ?_
  conv=>whnf
  refine CallQ.o V.bool (by first | rfl | simp only [Aa,V.fz,fzL,V.up,upL,Ab,Ac,Ad,slr,List.cons_append,List.nil_append] | simp [Aa,V.fz,fzL,V.up,upL,Ab,Ac,Ad,slr]) h (fun r h=>Sd h) (fun r3 h=> ?_)
  conv=>whnf
  refine Br.yes ?_
  conv=>whnf
  cases h;exact (by first | rfl | simp only [Ah,Aa,V.fz,fzL,V.up,upL,Ab,Ac,Ad,slr] | simp [Ah,Aa,V.fz,fzL,V.up,upL,Ab,Ac,Ad,slr])
 conv=>whnf
 refine Br.no ?_
 conv=>whnf
 refine Br.no ?_
 conv=>whnf
 refine Br.no ?_
 conv=>whnf
 cases h;exact (by first | rfl | simp only [Ah,Aa,V.fz,fzL,V.up,upL,Ab,Ac,Ad,slr] | simp [Ah,Aa,V.fz,fzL,V.up,upL,Ab,Ac,Ad,slr])
noncomputable def E9 (list0:(List (List Int))) (t0:(List Int)):Option (List (List Int)):=
 (C9 (list0) (t0)).bind fun r1=>
 if (r1.snd)=true then
 some list0
 else
 ask (0≤(0:Int)∧(0:Int)≤r1.fst∧r1.fst≤((list0.length:Nat):Int)) <|
 ask ((Au (List Int)).length+(List.take (r1.fst.toNat-Int.toNat (0:Int)) (List.drop (Int.toNat (0:Int)) list0)).length≤LIM) <|
 ask ((Au (List Int)++List.take (r1.fst.toNat-Int.toNat (0:Int)) (List.drop (Int.toNat (0:Int)) list0)).length+([t0]).length≤LIM) <|
 ask (0≤r1.fst∧r1.fst≤(↑list0.length:Int)∧(↑list0.length:Int)≤((list0.length:Nat):Int)) <|
 ask ((Au (List Int)++List.take (r1.fst.toNat-Int.toNat (0:Int)) (List.drop (Int.toNat (0:Int)) list0)++[t0]).length+(List.take ((↑list0.length:Int).toNat-r1.fst.toNat) (List.drop r1.fst.toNat list0)).length≤LIM) <|
 some (Au (List Int)++List.take (r1.fst.toNat-Int.toNat (0:Int)) (List.drop (Int.toNat (0:Int)) list0)++[t0]++List.take ((↑list0.length:Int).toNat-r1.fst.toNat) (List.drop r1.fst.toNat list0))
theorem Pi {list0:(List (List Int))} {t0:(List Int)} {v:(List (List Int))} (h:E9 list0 t0=some v):Rc Tryz.prog Jd [(slr true 1 (slr false 1 Ae)) list0,(slr false 1 Ae) t0] ((slr true 1 (slr false 1 Ae)) v) 0 V.dead:=by
 refine Azw Ao1 (Nat.le_of_ble_eq_true rfl) ?_
 unfold E9 at h
 conv=>whnf
 refine CallQ.rd (fun r=>V.tup [Ae r.1,V.bool r.2]) (by first | rfl | simp only [V.fz,V.up,Ab,slr] | simp [Aa,V.fz,fzL,V.up,upL,Ab,Ac,Ad,slr]) (fun _=>by simp [V.noFz,Cb]) h (fun r h=>Nk h) (fun r1 h=> ?_)
 conv=>whnf
 refine Br.ob h (fun p2 h=> ?_) (fun p2 h=> ?_)
 ·conv=>whnf
  cases h;exact ⟨(by first | rfl | simp only [Ah,Aa,V.fz,fzL,V.up,upL,Ab,Ac,Ad,slr] | simp [Ah,Aa,V.fz,fzL,V.up,upL,Ab,Ac,Ad,slr]),(by first | rfl | simp only [Ah,Aa,V.fz,fzL,V.up,upL,Ab,Ac,Ad,slr] | simp [Ah,Aa,V.fz,fzL,V.up,upL,Ab,Ac,Ad,slr])⟩
 conv=>whnf
 refine FrzQ.d (V.sl false (1:Nat) (List.map (slr false (1:Nat) Ae) list0)) (by first | (simp only [Am,Ac,slr];done) | (simp [Am,V.fz,Ab,Ac,slr];done) | (simp [Am,V.fz,fzL,Ab,slr];done)) ?_
 conv=>whnf
 refine BslQ.o (slr true 1 Ae) (Au (List Int)) (by exact fun _=>⟨rfl,rfl⟩) (by first | rfl | (simp only [Aa,V.fz,fzL,V.up,upL,Ab,Ac,Ad,slr,List.cons_append,List.nil_append];done) | simp [Aa,V.fz,fzL,V.up,upL,Ab,Ac,Ad,slr]) ?_
 conv=>whnf
 refine SlcQ.o (slr false 1 Ae) h fun h=> ?_
 conv=>whnf
 refine AppQ.o (m:=1) (slr false 1 Ae) (by exact fun _=>⟨rfl,rfl⟩) (Au (List Int)) (List.take (r1.fst.toNat-Int.toNat (0:Int)) (List.drop (Int.toNat (0:Int)) list0)) (by first | rfl | simp only [Aa,V.fz,fzL,V.up,upL,Ab,Ac,Ad,slr,List.cons_append,List.nil_append] | simp [Aa,V.fz,fzL,V.up,upL,Ab,Ac,Ad,slr]) (by first | rfl | simp only [Aa,V.fz,fzL,V.up,upL,Ab,Ac,Ad,slr,List.cons_append,List.nil_append] | simp [Aa,V.fz,fzL,V.up,upL,Ab,Ac,Ad,slr]) h fun h=> ?_
 conv=>whnf
 refine BslQ.o (slr false 1 Ae) [t0] (by exact fun _=>⟨rfl,rfl⟩) (by first | rfl | (simp only [Aa,V.fz,fzL,V.up,upL,Ab,Ac,Ad,slr,List.cons_append,List.nil_append];done) | simp [Aa,V.fz,fzL,V.up,upL,Ab,Ac,Ad,slr]) ?_
 conv=>whnf
 refine NoOwn.o (fun _=>rfl) ?_
 conv=>whnf
 refine AppQ.o (m:=1) (slr false 1 Ae) (by exact fun _=>⟨rfl,rfl⟩) (Au (List Int)++List.take (r1.fst.toNat-Int.toNat (0:Int)) (List.drop (Int.toNat (0:Int)) list0)) ([t0]) (by first | rfl | simp only [Aa,V.fz,fzL,V.up,upL,Ab,Ac,Ad,slr,List.cons_append,List.nil_append] | simp [Aa,V.fz,fzL,V.up,upL,Ab,Ac,Ad,slr]) (by first | rfl | simp only [Aa,V.fz,fzL,V.up,upL,Ab,Ac,Ad,slr,List.cons_append,List.nil_append] | simp [Aa,V.fz,fzL,V.up,upL,Ab,Ac,Ad,slr]) h fun h=> ?_
 conv=>whnf
 refine Len.map ?_
 conv=>whnf
 refine SlcQ.o (slr false 1 Ae) h fun h=> ?_
 conv=>whnf
 refine AppQ.o (m:=1) (slr false 1 Ae) (by exact fun _=>⟨rfl,rfl⟩) (Au (List Int)++List.take (r1.fst.toNat-Int.toNat (0:Int)) (List.drop (Int.toNat (0:Int)) list0)++[t0]) (List.take ((↑list0.length:Int).toNat-r1.fst.toNat) (List.drop r1.fst.toNat list0)) (by first | rfl | simp only [Aa,V.fz,fzL,V.up,upL,Ab,Ac,Ad,slr,List.cons_append,List.nil_append] | simp [Aa,V.fz,fzL,V.up,upL,Ab,Ac,Ad,slr]) (by first | rfl | simp only [Aa,V.fz,fzL,V.up,upL,Ab,Ac,Ad,slr,List.cons_append,List.nil_append] | simp [Aa,V.fz,fzL,V.up,upL,Ab,Ac,Ad,slr]) h fun h=> ?_
 conv=>whnf
 cases h;exact ⟨(by first | rfl | simp only [Ah,Aa,V.fz,fzL,V.up,upL,Ab,Ac,Ad,slr] | simp [Ah,Aa,V.fz,fzL,V.up,upL,Ab,Ac,Ad,slr]),(by first | rfl | simp only [Ah,Aa,V.fz,fzL,V.up,upL,Ab,Ac,Ad,slr] | simp [Ah,Aa,V.fz,fzL,V.up,upL,Ab,Ac,Ad,slr])⟩
noncomputable def E4 (vars0:Int) (size0:Int) (c0:SConstraint):Option Bool:=
 (Ep (size0) (c0.Rel)).bind fun r1=>
 if (r1)=true then
 if (↑c0.Scope.length:Int)=c0.Rel.Arity then
 (Gl (c0.Scope) (vars0)).bind fun r4=>
 some r4
 else
 some false
 else
 some false
theorem Zw {vars0:Int} {size0:Int} {c0:SConstraint} {v:Bool} (h:E4 vars0 size0 c0=some v):Ret Tryz.prog Jz [Ae vars0,Ae size0,(Ap false) c0] (V.bool v):=by
 refine A5 Zr (Nat.le_of_ble_eq_true rfl) ?_
 unfold E4 at h
 conv=>whnf
 refine Cells.lit rfl rfl ?_
 conv=>whnf
 refine CallQ.o V.bool (by first | rfl | simp only [Aa,V.fz,fzL,V.up,upL,Ab,Ac,Ad,slr,List.cons_append,List.nil_append] | simp [Aa,V.fz,fzL,V.up,upL,Ab,Ac,Ad,slr]) h (fun r h=>Sd h) (fun r1 h=> ?_)
 conv=>whnf
 refine Br.ob h (fun p2 h=> ?_) (fun p2 h=> ?_)
 ·conv=>whnf
  refine Br.yes ?_
  conv=>whnf
  refine Cells.lit rfl rfl ?_
  conv=>whnf
  refine Br.yes ?_
  conv=>whnf
  refine Len.map ?_
  conv=>whnf
  refine Br.yes ?_
  conv=>whnf
  refine Br.yes ?_
  conv=>whnf
  refine Br.yes ?_
  conv=>whnf
  refine Cells.lit rfl rfl ?_
  conv=>whnf
  refine Br.yes ?_
  conv=>whnf
  refine Br.yes ?_
  conv=>whnf
  refine Br.oe h (fun p3 h=> ?_) (fun p3 h=> ?_)
  ·conv=>whnf
   refine Br.yes ?_
   conv=>whnf
   refine Cells.lit rfl rfl ?_
   conv=>whnf
   refine Br.yes ?_
   conv=>whnf
   refine Br.yes ?_
   conv=>whnf
   refine CallQ.o V.bool (by first | rfl | simp only [Aa,V.fz,fzL,V.up,upL,Ab,Ac,Ad,slr,List.cons_append,List.nil_append] | simp [Aa,V.fz,fzL,V.up,upL,Ab,Ac,Ad,slr]) h (fun r h=>To h) (fun r4 h=> ?_)
   conv=>whnf
   refine Br.yes ?_
   conv=>whnf
   cases h;exact (by first | rfl | simp only [Ah,Aa,V.fz,fzL,V.up,upL,Ab,Ac,Ad,slr] | simp [Ah,Aa,V.fz,fzL,V.up,upL,Ab,Ac,Ad,slr])
  conv=>whnf
  refine Br.no ?_
  conv=>whnf
  refine Br.no ?_
  conv=>whnf
  refine Br.no ?_
  conv=>whnf
  refine Br.no ?_
  conv=>whnf
  cases h;exact (by first | rfl | simp only [Ah,Aa,V.fz,fzL,V.up,upL,Ab,Ac,Ad,slr] | simp [Ah,Aa,V.fz,fzL,V.up,upL,Ab,Ac,Ad,slr])
 conv=>whnf
 refine Br.no ?_
 conv=>whnf
 refine Br.no ?_
 conv=>whnf
 refine Br.no ?_
 conv=>whnf
 refine Br.no ?_
 conv=>whnf
 refine Br.no ?_
 conv=>whnf
 refine Br.no ?_
 conv=>whnf
 refine Br.no ?_
 conv=>whnf
 refine Br.no ?_
 conv=>whnf
 refine Br.no ?_
 conv=>whnf
 refine Br.no ?_
 conv=>whnf
 refine Br.no ?_
 conv=>whnf
 refine Br.no ?_
 conv=>whnf
 cases h;exact (by first | rfl | simp only [Ah,Aa,V.fz,fzL,V.up,upL,Ab,Ac,Ad,slr] | simp [Ah,Aa,V.fz,fzL,V.up,upL,Ab,Ac,Ad,slr])
noncomputable def Hv (r0:SRelation) (t0:(List Int)):Option Bool:=
 if (↑t0.length:Int)≠r0.Arity then
 some false
 else
 (C9 (r0.Tuples) (t0)).bind fun r2=>
 some r2.snd
theorem Z4 {r0:SRelation} {t0:(List Int)} {v:Bool} (h:Hv r0 t0=some v):Ret Tryz.prog Nn [(Ai false) r0,(slr false 1 Ae) t0] (V.bool v):=by
 refine A5 Aku (Nat.le_of_ble_eq_true rfl) ?_
 unfold Hv at h
 conv=>whnf
 refine Len.map ?_
 conv=>whnf
 refine Cells.lit rfl rfl ?_
 conv=>whnf
 refine Br.on h (fun p1 h=> ?_) (fun p1 h=> ?_)
 ·conv=>whnf
  cases h;exact (by first | rfl | simp only [Ah,Aa,V.fz,fzL,V.up,upL,Ab,Ac,Ad,slr] | simp [Ah,Aa,V.fz,fzL,V.up,upL,Ab,Ac,Ad,slr])
 conv=>whnf
 refine Cells.lit rfl rfl ?_
 conv=>whnf
 refine CallQ.o (fun r=>V.tup [Ae r.1,V.bool r.2]) (by first | rfl | simp only [Aa,V.fz,fzL,V.up,upL,Ab,Ac,Ad,slr,List.cons_append,List.nil_append] | simp [Aa,V.fz,fzL,V.up,upL,Ab,Ac,Ad,slr]) h (fun r h=>Nk h) (fun r2 h=> ?_)
 conv=>whnf
 cases h;exact (by first | rfl | simp only [Ah,Aa,V.fz,fzL,V.up,upL,Ab,Ac,Ad,slr] | simp [Ah,Aa,V.fz,fzL,V.up,upL,Ab,Ac,Ad,slr])
noncomputable def Dn (c0:Sl1Cur) (n0:Int):Option (Bool×Sl1Cur):=
 (Bn (c0) (n0)).bind fun (r1,u2)=>
 some (r1==(0:Int),u2)
theorem Un {c0:Sl1Cur} {n0:Int} {v:(Bool×Sl1Cur)} (h:Dn c0 n0=some v):Rc Tryz.prog Jh [(rP true (Ak false)) c0,Ae n0] (V.bool v.1) 0 ((rP true (Ak false)) v.2):=by
 refine Y7 Aed (Nat.le_of_ble_eq_true rfl) ?_
 unfold Dn at h
 conv=>whnf
 refine CallQ.io Ae (rP true (Ak false)) (by first | rfl | simp only [Aa,V.fz,fzL,V.up,upL,Ab,Ac,Ad,slr,List.cons_append,List.nil_append] | simp [Aa,V.fz,fzL,V.up,upL,Ab,Ac,Ad,slr]) rfl (fun _=>rfl) (fun _=>⟨rfl,rfl⟩) rfl h (fun r h=>C6 h) (fun r1 u2 h=> ?_)
 conv=>whnf
 cases h;exact ⟨(by first | rfl | simp only [Ah,Aa,V.fz,fzL,V.up,upL,Ab,Ac,Ad,slr] | simp [Ah,Aa,V.fz,fzL,V.up,upL,Ab,Ac,Ad,slr]),(by first | rfl | simp only [Ah,Aa,V.fz,fzL,V.up,upL,Ab,Ac,Ad,slr] | simp [Ah,Aa,V.fz,fzL,V.up,upL,Ab,Ac,Ad,slr])⟩
noncomputable def Cp (n0:Int):(Int×(List Int)×Sl1Cur)→Option ((Int×(List Int)×Sl1Cur) ⊕ ((List Int)×Sl1Cur)):=fun (x6,x5,x30)=>
 if x6<n0 then
 ask (InI (x6+(1:Int))) <|
 (Bn (x30) (x6+(1:Int))).bind fun (r3,u4)=>
 if r3<x6 then
 ask ((0:Int)≤r3∧r3<(↑x5.length:Int)) <|
 ask ((x5).length+([nth x5 r3.toNat]).length≤LIM) <|
 ask (InI (x6+(1:Int))) <|
 some (.inl (x6+(1:Int),x5++[nth x5 r3.toNat],u4))
 else
 ask ((x5).length+([r3]).length≤LIM) <|
 ask (InI (x6+(1:Int))) <|
 some (.inl (x6+(1:Int),x5++[r3],u4))
 else
 some (.inr (x5,x30))
def E6 (n0:Int):(Int×(List Int)×Sl1Cur)→St:=fun s=>[(6,A.val (Ae s.1)),(5,A.val ((slr true 1 Ae) s.2.1)),(0,A.ref 30 []),(30,A.val ((rP true (Ak false)) s.2.2)),(1,A.val (Ae (n0)))]
def Ii (_n0:Int):((List Int)×Sl1Cur)→Tgt
 | s=>((Ex.exit 0),[5,30],[(5,A.val ((slr true 1 Ae) s.1)),(30,A.val ((rP true (Ak false)) s.2))])
theorem Ps {n0:Int} (s:(Int×(List Int)×Sl1Cur)) (o:(Int×(List Int)×Sl1Cur) ⊕ ((List Int)×Sl1Cur)) (h:Cp n0 s=some o):vc Tryz.prog Ia (Dc [6,5,0,30,1] (E6 n0) (Ii n0) o) (E6 n0 s):=by
 obtain ⟨x6,x5,x30⟩:=s
 unfold Cp at h
 try dsimp only at h
 conv=>whnf
 refine Br.od h (fun p1 h=> ?_) (fun p1 h=> ?_)
 ·conv=>whnf
  refine Ask.o h fun p2 h=> ?_
  conv=>whnf
  refine CallQ.io Ae (rP true (Ak false)) (by first | rfl | simp only [Aa,V.fz,fzL,V.up,upL,Ab,Ac,Ad,slr,List.cons_append,List.nil_append] | simp [Aa,V.fz,fzL,V.up,upL,Ab,Ac,Ad,slr]) rfl (fun _=>rfl) (fun _=>⟨rfl,rfl⟩) rfl h (fun r h=>C6 h) (fun r3 u4 h=> ?_)
  conv=>whnf
  refine Br.od h (fun p5 h=> ?_) (fun p5 h=> ?_)
  ·conv=>whnf
   refine Len.map ?_
   conv=>whnf
   refine Ask.o h fun p6 h=> ?_
   conv=>whnf
   refine Cells.one (fun _=>⟨rfl,rfl⟩) (by first | omega | (simp [Be] at * <;> omega)) ?_
   conv=>whnf
   refine BslQ.o Ae ([nth x5 r3.toNat]) (by exact fun _=>⟨rfl,rfl⟩) (by first | rfl | (simp only [Aa,V.fz,fzL,V.up,upL,Ab,Ac,Ad,slr,List.cons_append,List.nil_append];done) | simp [Aa,V.fz,fzL,V.up,upL,Ab,Ac,Ad,slr]) ?_
   conv=>whnf
   refine NoOwn.o (fun _=>rfl) ?_
   conv=>whnf
   refine AppQ.o (m:=1) Ae (by exact fun _=>⟨rfl,rfl⟩) (x5) ([nth x5 r3.toNat]) (by first | rfl | simp only [Aa,V.fz,fzL,V.up,upL,Ab,Ac,Ad,slr,List.cons_append,List.nil_append] | simp [Aa,V.fz,fzL,V.up,upL,Ab,Ac,Ad,slr]) (by first | rfl | simp only [Aa,V.fz,fzL,V.up,upL,Ab,Ac,Ad,slr,List.cons_append,List.nil_append] | simp [Aa,V.fz,fzL,V.up,upL,Ab,Ac,Ad,slr]) h fun h=> ?_
   conv=>whnf
   refine Ask.o h fun p7 h=> ?_
   conv=>whnf
   cases h;exact ⟨rfl,rfl⟩
  conv=>whnf
  refine BslQ.o Ae [r3] (by exact fun _=>⟨rfl,rfl⟩) (by first | rfl | (simp only [Aa,V.fz,fzL,V.up,upL,Ab,Ac,Ad,slr,List.cons_append,List.nil_append];done) | simp [Aa,V.fz,fzL,V.up,upL,Ab,Ac,Ad,slr]) ?_
  conv=>whnf
  refine NoOwn.o (fun _=>rfl) ?_
  conv=>whnf
  refine AppQ.o (m:=1) Ae (by exact fun _=>⟨rfl,rfl⟩) (x5) ([r3]) (by first | rfl | simp only [Aa,V.fz,fzL,V.up,upL,Ab,Ac,Ad,slr,List.cons_append,List.nil_append] | simp [Aa,V.fz,fzL,V.up,upL,Ab,Ac,Ad,slr]) (by first | rfl | simp only [Aa,V.fz,fzL,V.up,upL,Ab,Ac,Ad,slr,List.cons_append,List.nil_append] | simp [Aa,V.fz,fzL,V.up,upL,Ab,Ac,Ad,slr]) h fun h=> ?_
  conv=>whnf
  refine Ask.o h fun p8 h=> ?_
  conv=>whnf
  cases h;exact ⟨rfl,rfl⟩
 conv=>whnf
 cases h;exact ⟨rfl,rfl⟩
noncomputable def Ci (c0:Sl1Cur) (n0:Int):Option ((List Int)×Sl1Cur):=
 (Ao (Cp n0) ((0:Int),Au Int,c0)).bind fun (q9_5,q9_30)=>
 some (q9_5,q9_30)
theorem Tk {c0:Sl1Cur} {n0:Int} {v:((List Int)×Sl1Cur)} (h:Ci c0 n0=some v):Rc Tryz.prog Gq [(rP true (Ak false)) c0,Ae n0] ((slr true 1 Ae) v.1) 0 ((rP true (Ak false)) v.2):=by
 refine Y7 Tj (Nat.le_of_ble_eq_true rfl) ?_
 unfold Ci at h
 conv=>whnf
 refine BslQ.o Ae (Au Int) (by exact fun _=>⟨rfl,rfl⟩) (by first | rfl | (simp only [Aa,V.fz,fzL,V.up,upL,Ab,Ac,Ad,slr,List.cons_append,List.nil_append];done) | simp [Aa,V.fz,fzL,V.up,upL,Ab,Ac,Ad,slr]) ?_
 conv=>whnf
 refine LoopQ.o [6,5,0,30,1] (E6 n0) (Ii n0) h (fun s o h=>Ps s o h) (by first | rfl | simp [restrict,look,Aa,V.fz,fzL,V.up,upL,Ab,Ac,Ad,slr]) (fun _=>rfl) ?_
 rintro ⟨q9_5,q9_30⟩ h
 try dsimp only at h
 conv=>whnf
 cases h;exact ⟨(by first | rfl | simp only [Ah,Aa,V.fz,fzL,V.up,upL,Ab,Ac,Ad,slr] | simp [Ah,Aa,V.fz,fzL,V.up,upL,Ab,Ac,Ad,slr]),(by first | rfl | simp only [Ah,Aa,V.fz,fzL,V.up,upL,Ab,Ac,Ad,slr] | simp [Ah,Aa,V.fz,fzL,V.up,upL,Ab,Ac,Ad,slr])⟩
noncomputable def L0 (n0:Int) (k0:Int) (t0:(List Int)):Option Bool:=
 if (↑t0.length:Int)=k0 then
 (Eo (n0) (t0)).bind fun r2=>
 some r2
 else
 some false
theorem Aip {n0:Int} {k0:Int} {t0:(List Int)} {v:Bool} (h:L0 n0 k0 t0=some v):Ret Tryz.prog P6 [Ae n0,Ae k0,(slr false 1 Ae) t0] (V.bool v):=by
 refine A5 Akm (Nat.le_of_ble_eq_true rfl) ?_
 unfold L0 at h
 conv=>whnf
 refine Len.map ?_
 conv=>whnf
 refine Br.oe h (fun p1 h=> ?_) (fun p1 h=> ?_)
 ·conv=>whnf
  refine Br.yes ?_
  conv=>whnf
  refine Br.yes ?_
  conv=>whnf
  refine CallQ.o V.bool (by first | rfl | simp only [Aa,V.fz,fzL,V.up,upL,Ab,Ac,Ad,slr,List.cons_append,List.nil_append] | simp [Aa,V.fz,fzL,V.up,upL,Ab,Ac,Ad,slr]) h (fun r h=>R4 h) (fun r2 h=> ?_)
  conv=>whnf
  refine Br.yes ?_
  conv=>whnf
  cases h;exact (by first | rfl | simp only [Ah,Aa,V.fz,fzL,V.up,upL,Ab,Ac,Ad,slr] | simp [Ah,Aa,V.fz,fzL,V.up,upL,Ab,Ac,Ad,slr])
 conv=>whnf
 refine Br.no ?_
 conv=>whnf
 refine Br.no ?_
 conv=>whnf
 refine Br.no ?_
 conv=>whnf
 cases h;exact (by first | rfl | simp only [Ah,Aa,V.fz,fzL,V.up,upL,Ab,Ac,Ad,slr] | simp [Ah,Aa,V.fz,fzL,V.up,upL,Ab,Ac,Ad,slr])
noncomputable def Gu (list0:(List (List Int))):Option (List (List Int)):=
 (Gz (list0)).bind fun r1=>
 (F2 (r1) (fun w_0 w_1=>C1 w_0 w_1)).bind fun (_r2,u3)=>
 some u3
theorem Zq {list0:(List (List Int))} {v:(List (List Int))} (h:Gu list0=some v):Ret Tryz.prog Jx [(slr false 1 (slr false 1 Ae)) list0] ((slr true 1 (slr true 1 Ae)) v):=by
 refine A5 Zv (Nat.le_of_ble_eq_true rfl) ?_
 unfold Gu at h
 conv=>whnf
 refine CallQ.o (slr true 1 (slr true 1 Ae)) (by first | rfl | simp only [Aa,V.fz,fzL,V.up,upL,Ab,Ac,Ad,slr,List.cons_append,List.nil_append] | simp [Aa,V.fz,fzL,V.up,upL,Ab,Ac,Ad,slr]) h (fun r h=>Aec h) (fun r1 h=> ?_)
 conv=>whnf
 refine CallQ.io (fun r=>V.tup []) (slr true 1 (slr true 1 Ae)) (by first | rfl | simp only [Aa,V.fz,fzL,V.up,upL,Ab,Ac,Ad,slr,List.cons_append,List.nil_append] | simp [Aa,V.fz,fzL,V.up,upL,Ab,Ac,Ad,slr]) rfl (fun _=>rfl) (fun _=>⟨rfl,rfl⟩) rfl h (fun r h=>Agv (f_order0:=E5) (c_order0:=[]) (fun w_0 w_1 v h=>Ret.cast (by first | rfl | simp only [Aa,V.fz,fzL,V.up,upL,Ab,Ac,Ad,slr,List.cons_append,List.nil_append] | simp [Aa,V.fz,fzL,V.up,upL,Ab,Ac,Ad,slr]) (Pf h)) h) (fun r2 u3 h=> ?_)
 conv=>whnf
 cases h;exact (by first | rfl | simp only [Ah,Aa,V.fz,fzL,V.up,upL,Ab,Ac,Ad,slr] | simp [Ah,Aa,V.fz,fzL,V.up,upL,Ab,Ac,Ad,slr])
noncomputable def L6 (n0:Int) (op0:SOp) (r0:SRelation):Option Bool:=
 (Hf (n0) (r0)).bind fun r1=>
 if (r1)=true then
 (K7 (op0) (n0)).bind fun r3=>
 if (r3)=true then
 (Ek ((↑r0.Tuples.length:Int)) (op0.Arity)).bind fun r5=>
 some (decide (r5≤(70000:Int)))
 else
 some false
 else
 some false
theorem Ah3 {n0:Int} {op0:SOp} {r0:SRelation} {v:Bool} (h:L6 n0 op0 r0=some v):Ret Tryz.prog Qn [Ae n0,(Co false) op0,(Ai false) r0] (V.bool v):=by
 refine A5 Aiy (Nat.le_of_ble_eq_true rfl) ?_
 unfold L6 at h
 conv=>whnf
 refine Cells.lit rfl rfl ?_
 conv=>whnf
 refine CallQ.o V.bool (by first | rfl | simp only [Aa,V.fz,fzL,V.up,upL,Ab,Ac,Ad,slr,List.cons_append,List.nil_append] | simp [Aa,V.fz,fzL,V.up,upL,Ab,Ac,Ad,slr]) h (fun r h=>Abl h) (fun r1 h=> ?_)
 conv=>whnf
 refine Br.ob h (fun p2 h=> ?_) (fun p2 h=> ?_)
 ·conv=>whnf
  refine Cells.lit rfl rfl ?_
  conv=>whnf
  refine Br.yes ?_
  conv=>whnf
  refine Br.yes ?_
  conv=>whnf
  refine CallQ.o V.bool (by first | rfl | simp only [Aa,V.fz,fzL,V.up,upL,Ab,Ac,Ad,slr,List.cons_append,List.nil_append] | simp [Aa,V.fz,fzL,V.up,upL,Ab,Ac,Ad,slr]) h (fun r h=>Af8 h) (fun r3 h=> ?_)
  conv=>whnf
  refine Br.yes ?_
  conv=>whnf
  refine Br.ob h (fun p4 h=> ?_) (fun p4 h=> ?_)
  ·conv=>whnf
   refine Br.yes ?_
   conv=>whnf
   refine Cells.lit rfl rfl ?_
   conv=>whnf
   refine Br.yes ?_
   conv=>whnf
   refine Len.map ?_
   conv=>whnf
   refine Br.yes ?_
   conv=>whnf
   refine Br.yes ?_
   conv=>whnf
   refine Cells.lit rfl rfl ?_
   conv=>whnf
   refine Br.yes ?_
   conv=>whnf
   refine CallQ.o Ae (by first | rfl | simp only [Aa,V.fz,fzL,V.up,upL,Ab,Ac,Ad,slr,List.cons_append,List.nil_append] | simp [Aa,V.fz,fzL,V.up,upL,Ab,Ac,Ad,slr]) h (fun r h=>V3 h) (fun r5 h=> ?_)
   conv=>whnf
   refine Br.yes ?_
   conv=>whnf
   refine Br.yes ?_
   conv=>whnf
   cases h;exact (by first | rfl | simp only [Ah,Aa,V.fz,fzL,V.up,upL,Ab,Ac,Ad,slr] | simp [Ah,Aa,V.fz,fzL,V.up,upL,Ab,Ac,Ad,slr])
  conv=>whnf
  refine Br.no ?_
  conv=>whnf
  refine Br.no ?_
  conv=>whnf
  refine Br.no ?_
  conv=>whnf
  refine Br.no ?_
  conv=>whnf
  refine Br.no ?_
  conv=>whnf
  refine Br.no ?_
  conv=>whnf
  refine Br.no ?_
  conv=>whnf
  cases h;exact (by first | rfl | simp only [Ah,Aa,V.fz,fzL,V.up,upL,Ab,Ac,Ad,slr] | simp [Ah,Aa,V.fz,fzL,V.up,upL,Ab,Ac,Ad,slr])
 conv=>whnf
 refine Br.no ?_
 conv=>whnf
 refine Br.no ?_
 conv=>whnf
 refine Br.no ?_
 conv=>whnf
 refine Br.no ?_
 conv=>whnf
 refine Br.no ?_
 conv=>whnf
 refine Br.no ?_
 conv=>whnf
 refine Br.no ?_
 conv=>whnf
 refine Br.no ?_
 conv=>whnf
 refine Br.no ?_
 conv=>whnf
 refine Br.no ?_
 conv=>whnf
 refine Br.no ?_
 conv=>whnf
 cases h;exact (by first | rfl | simp only [Ah,Aa,V.fz,fzL,V.up,upL,Ab,Ac,Ad,slr] | simp [Ah,Aa,V.fz,fzL,V.up,upL,Ab,Ac,Ad,slr])
noncomputable def Dz (net0:SNetwork):Int→Option (Int ⊕ (Unit ⊕ Unit)):=fun x28=>
 if x28<(↑net0.Constraints.length:Int) then
 ask ((0:Int)≤x28∧x28<(↑net0.Constraints.length:Int)) <|
 (E4 (net0.Vars) (net0.Size) (nth net0.Constraints x28.toNat)).bind fun r9=>
 if (r9)=true then
 ask (InI (x28+(1:Int))) <|
 some (.inl (x28+(1:Int)))
 else
 some (.inr (.inl ()))
 else
 some (.inr (.inr ()))
def Jw (net0:SNetwork):Int→St:=fun s=>[(28,A.val (Ae s)),(27,A.val (Ae ((↑net0.Constraints.length:Int)))),(26,A.val ((slr false 3 (Ap false)) (net0.Constraints))),(1,A.val ((rP true (Aj false)) (net0)))]
def O9 (_net0:SNetwork):(Unit ⊕ Unit)→Tgt
 | (.inl _s)=>(Ex.ret,[2],[(2,A.val (V.bool (false)))])
 | (.inr _s)=>((Ex.exit 0),[],[])
theorem Zh {net0:SNetwork} (x28:Int) (o:Int ⊕ (Unit ⊕ Unit)) (h:Dz net0 x28=some o):vc Tryz.prog O7 (Dc [28,27,26,1] (Jw net0) (O9 net0) o) (Jw net0 x28):=by
 unfold Dz at h
 try dsimp only at h
 conv=>whnf
 refine Br.od h (fun p7 h=> ?_) (fun p7 h=> ?_)
 ·conv=>whnf
  refine Len.map ?_
  conv=>whnf
  refine Ask.o h fun p8 h=> ?_
  conv=>whnf
  refine Elem.o (by first | omega | (simp [Be] at * <;> omega)) ?_
  conv=>whnf
  refine SetKids.lit rfl ?_
  conv=>whnf
  refine Cells.lit rfl rfl ?_
  conv=>whnf
  refine Cells.lit rfl rfl ?_
  conv=>whnf
  refine Cells.lit rfl rfl ?_
  conv=>whnf
  refine CallQ.o V.bool (by first | rfl | simp only [Aa,V.fz,fzL,V.up,upL,Ab,Ac,Ad,slr,List.cons_append,List.nil_append] | simp [Aa,V.fz,fzL,V.up,upL,Ab,Ac,Ad,slr]) h (fun r h=>Zw h) (fun r9 h=> ?_)
  conv=>whnf
  refine Br.flip ?_
  conv=>whnf
  refine Br.ob h (fun p10 h=> ?_) (fun p10 h=> ?_)
  ·conv=>whnf
   refine Ask.o h fun p11 h=> ?_
   conv=>whnf
   cases h;exact ⟨rfl,rfl⟩
  conv=>whnf
  cases h;exact ⟨rfl,rfl⟩
 conv=>whnf
 cases h;exact ⟨rfl,rfl⟩
noncomputable def Fe (net0:SNetwork):Option Bool:=
 ((if net0.Vars<(0:Int) then
 some (.inl ())
 else
 if net0.Vars>(9:Int) then
 some (.inl ())
 else
 (Fr (net0.Size)).bind fun r3=>
 if (r3)=true then
 if (↑net0.Constraints.length:Int)>(40:Int) then
 some (.inl ())
 else
 some (.inr ())
 else
 some (.inl ()):Option (Unit ⊕ Unit))).bind fun t=>match t with
 | (.inl _)=>(some false)
 | (.inr _)=>((Ao (Dz net0) (0:Int)).bind fun t=>match t with
 | (.inl _)=>(some false)
 | (.inr _)=>(some true))
theorem Ub {net0:SNetwork} {v:Bool} (h:Fe net0=some v):Ret Tryz.prog Jj [(Aj false) net0] (V.bool v):=by
 refine A5 Afq (Nat.le_of_ble_eq_true rfl) ?_
 unfold Fe at h
 conv=>whnf
 refine CutQ.o (fun t:(Unit ⊕ Unit)=>match t with | (.inl s)=>(Ex.ret,[2],[(2,A.val (V.bool (false)))]) | (.inr s)=>(Ex.normal,[1],[(1,A.val ((rP true (Aj false)) (net0)))])) h ?_ ?_
 ·intro t h
  conv=>whnf
  refine Cells.lit rfl rfl ?_
  conv=>whnf
  refine Br.od h (fun p1 h=> ?_) (fun p1 h=> ?_)
  ·conv=>whnf
   refine Br.yes ?_
   conv=>whnf
   refine Br.yes ?_
   conv=>whnf
   refine Br.yes ?_
   conv=>whnf
   refine Br.yes ?_
   conv=>whnf
   refine Br.yes ?_
   conv=>whnf
   refine Br.yes ?_
   conv=>whnf
   refine Br.yes ?_
   conv=>whnf
   refine Br.yes ?_
   conv=>whnf
   refine Br.yes ?_
   conv=>whnf
   refine Br.yes ?_
   conv=>whnf
   refine Br.yes ?_
   conv=>whnf
   refine Br.yes ?_
   conv=>whnf
   refine Br.yes ?_
   conv=>whnf
   refine Br.yes ?_
   conv=>whnf
   cases h;exact ⟨rfl,rfl⟩
  conv=>whnf
  refine Br.no ?_
  conv=>whnf
  refine Cells.lit rfl rfl ?_
  conv=>whnf
  refine Br.no ?_
  conv=>whnf
  refine Br.no ?_
  conv=>whnf
  refine Br.od h (fun p2 h=> ?_) (fun p2 h=> ?_)
  ·conv=>whnf
   refine Br.yes ?_
   conv=>whnf
   refine Br.yes ?_
   conv=>whnf
   refine Br.yes ?_
   conv=>whnf
   refine Br.yes ?_
   conv=>whnf
   refine Br.yes ?_
   conv=>whnf
   refine Br.yes ?_
   conv=>whnf
   refine Br.yes ?_
   conv=>whnf
   refine Br.yes ?_
   conv=>whnf
   refine Br.yes ?_
   conv=>whnf
   refine Br.yes ?_
   conv=>whnf
   cases h;exact ⟨rfl,rfl⟩
  conv=>whnf
  refine Br.no ?_
  conv=>whnf
  refine Cells.lit rfl rfl ?_
  conv=>whnf
  refine Br.no ?_
  conv=>whnf
  refine CallQ.o V.bool (by first | rfl | simp only [Aa,V.fz,fzL,V.up,upL,Ab,Ac,Ad,slr,List.cons_append,List.nil_append] | simp [Aa,V.fz,fzL,V.up,upL,Ab,Ac,Ad,slr]) h (fun r h=>Xa h) (fun r3 h=> ?_)
  conv=>whnf
  refine Br.no ?_
  conv=>whnf
  refine Br.no ?_
  conv=>whnf
  refine Br.flip ?_
  conv=>whnf
  refine Br.ob h (fun p4 h=> ?_) (fun p4 h=> ?_)
  ·conv=>whnf
   refine Br.no ?_
   conv=>whnf
   refine Cells.lit rfl rfl ?_
   conv=>whnf
   refine Br.no ?_
   conv=>whnf
   refine Len.map ?_
   conv=>whnf
   refine Br.no ?_
   conv=>whnf
   refine Br.no ?_
   conv=>whnf
   refine Br.od h (fun p5 h=> ?_) (fun p5 h=> ?_)
   ·conv=>whnf
    cases h;exact ⟨rfl,rfl⟩
   conv=>whnf
   cases h;exact ⟨rfl,rfl⟩
  conv=>whnf
  refine Br.yes ?_
  conv=>whnf
  refine Br.yes ?_
  conv=>whnf
  refine Br.yes ?_
  conv=>whnf
  refine Br.yes ?_
  conv=>whnf
  refine Br.yes ?_
  conv=>whnf
  cases h;exact ⟨rfl,rfl⟩
 rintro (⟨⟩ | ⟨⟩) h
 ·try dsimp only at h
  conv=>whnf
  cases h;exact (by first | rfl | simp only [Ah,Aa,V.fz,fzL,V.up,upL,Ab,Ac,Ad,slr] | simp [Ah,Aa,V.fz,fzL,V.up,upL,Ab,Ac,Ad,slr])
 try dsimp only at h
 conv=>whnf
 refine Cells.lit rfl rfl ?_
 conv=>whnf
 refine Len.map ?_
 conv=>whnf
 refine LoopQ.o [28,27,26,1] (Jw net0) (O9 net0) h (fun s o h=>Zh s o h) (by first | rfl | simp [restrict,look,Aa,V.fz,fzL,V.up,upL,Ab,Ac,Ad,slr]) (by rintro (_ | _)<;>rfl) ?_
 rintro (⟨⟩ | ⟨⟩) h
 ·try dsimp only at h
  conv=>whnf
  cases h;exact (by first | rfl | simp only [Ah,Aa,V.fz,fzL,V.up,upL,Ab,Ac,Ad,slr] | simp [Ah,Aa,V.fz,fzL,V.up,upL,Ab,Ac,Ad,slr])
 try dsimp only at h
 conv=>whnf
 cases h;exact (by first | rfl | simp only [Ah,Aa,V.fz,fzL,V.up,upL,Ab,Ac,Ad,slr] | simp [Ah,Aa,V.fz,fzL,V.up,upL,Ab,Ac,Ad,slr])
noncomputable def Eh (n0:Int) (rels0:List SRelation) (op0:SOp):Int→Option (Int ⊕ (Unit ⊕ Unit)):=fun x14=>
 if x14<(↑rels0.length:Int) then
 ask ((0:Int)≤x14∧x14<(↑rels0.length:Int)) <|
 (Bv (n0) (op0) (nth rels0 x14.toNat)).bind fun r3=>
 if (r3.snd.snd)=true then
 some (.inr (.inl ()))
 else
 ask (InI (x14+(1:Int))) <|
 some (.inl (x14+(1:Int)))
 else
 some (.inr (.inr ()))
def Kx (n0:Int) (rels0:List SRelation) (op0:SOp):Int→St:=fun s=>[(14,A.val (Ae s)),(13,A.val (Ae ((↑rels0.length:Int)))),(12,A.val ((slr false 2 (Ai false)) (rels0))),(5,A.val ((rP true (Co false)) (op0))),(0,A.val (Ae (n0)))]
def Qb (_n0:Int) (_rels0:List SRelation) (_op0:SOp):(Unit ⊕ Unit)→Tgt
 | (.inl _s)=>(Ex.ret,[6],[(6,A.val (V.bool (false)))])
 | (.inr _s)=>((Ex.exit 0),[],[])
theorem Aaj {n0:Int} {rels0:List SRelation} {op0:SOp} (x14:Int) (o:Int ⊕ (Unit ⊕ Unit)) (h:Eh n0 rels0 op0 x14=some o):vc Tryz.prog Qy (Dc [14,13,12,5,0] (Kx n0 rels0 op0) (Qb n0 rels0 op0) o) (Kx n0 rels0 op0 x14):=by
 unfold Eh at h
 try dsimp only at h
 conv=>whnf
 refine Br.od h (fun p1 h=> ?_) (fun p1 h=> ?_)
 ·conv=>whnf
  refine Len.map ?_
  conv=>whnf
  refine Ask.o h fun p2 h=> ?_
  conv=>whnf
  refine Elem.o (by first | omega | (simp [Be] at * <;> omega)) ?_
  conv=>whnf
  refine SetKids.lit rfl ?_
  conv=>whnf
  refine Cells.lit rfl rfl ?_
  conv=>whnf
  refine Cells.lit rfl rfl ?_
  conv=>whnf
  refine CallQ.o (fun r=>V.tup [(slr true 1 Ae) r.1,(slr true 1 Ae) r.2.1,V.bool r.2.2]) (by first | rfl | simp only [Aa,V.fz,fzL,V.up,upL,Ab,Ac,Ad,slr,List.cons_append,List.nil_append] | simp [Aa,V.fz,fzL,V.up,upL,Ab,Ac,Ad,slr]) h (fun r h=>Rn h) (fun r3 h=> ?_)
  conv=>whnf
  refine Br.ob h (fun p4 h=> ?_) (fun p4 h=> ?_)
  ·conv=>whnf
   cases h;exact ⟨rfl,rfl⟩
  conv=>whnf
  refine Ask.o h fun p5 h=> ?_
  conv=>whnf
  cases h;exact ⟨rfl,rfl⟩
 conv=>whnf
 cases h;exact ⟨rfl,rfl⟩
noncomputable def Hn (n0:Int) (rels0:(List SRelation)) (op0:SOp):Option Bool:=
 (Ao (Eh n0 rels0 op0) (0:Int)).bind fun t=>match t with
 | (.inl _)=>(some false)
 | (.inr _)=>(some true)
theorem Agl {n0:Int} {rels0:(List SRelation)} {op0:SOp} {v:Bool} (h:Hn n0 rels0 op0=some v):Ret Tryz.prog O3 [Ae n0,(slr false 2 (Ai false)) rels0,(Co false) op0] (V.bool v):=by
 refine A5 Ags (Nat.le_of_ble_eq_true rfl) ?_
 unfold Hn at h
 conv=>whnf
 refine Len.map ?_
 conv=>whnf
 refine LoopQ.o [14,13,12,5,0] (Kx n0 rels0 op0) (Qb n0 rels0 op0) h (fun s o h=>Aaj s o h) (by first | rfl | simp [restrict,look,Aa,V.fz,fzL,V.up,upL,Ab,Ac,Ad,slr]) (by rintro (_ | _)<;>rfl) ?_
 rintro (⟨⟩ | ⟨⟩) h
 ·try dsimp only at h
  conv=>whnf
  cases h;exact (by first | rfl | simp only [Ah,Aa,V.fz,fzL,V.up,upL,Ab,Ac,Ad,slr] | simp [Ah,Aa,V.fz,fzL,V.up,upL,Ab,Ac,Ad,slr])
 try dsimp only at h
 conv=>whnf
 cases h;exact (by first | rfl | simp only [Ah,Aa,V.fz,fzL,V.up,upL,Ab,Ac,Ad,slr] | simp [Ah,Aa,V.fz,fzL,V.up,upL,Ab,Ac,Ad,slr])
end Go.Proofs.YtjcekpmojnnmbaaGreat.Ax
