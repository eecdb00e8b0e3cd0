/-
 What the functions compute, as functions on plain data, and that the program does compute it; written by program.
-/
import Derived.Test.YtmkgjnphianalaaGreatCode
import Derived.Test.YtmkgjnphianalaaGreatG1
import Derived.Test.YtmkgjnphianalaaGreatG5
import Derived.Test.YtmkgjnphianalaaGreatG8
namespace Go.Proofs.YtmkgjnphianalaaGreat.Ax
open Go
set_option maxRecDepth 100000
set_option maxHeartbeats 4000000
noncomputable def D6 (r4:Int) (_x6:Int) (_x5:SAlgebra):(Int×SOp×Sl1Cur)→Option ((Int×SOp×Sl1Cur) ⊕ (SOp×Sl1Cur)):=fun (x8,x7,x132')=>
 if x8>(0:Int) then
 (A9 (x132') (r4)).bind fun (r16,u17)=>
 ask ((x7.Table).length+([r16]).length≤LIM) <|
 ask (InI (x8-(1:Int))) <|
 some (.inl (x8-(1:Int),{ Arity:=x7.Arity,Table:=x7.Table++[r16] },u17))
 else
 some (.inr (x7,x132'))
def Ii (r4:Int) (x6:Int) (x5:SAlgebra):(Int×SOp×Sl1Cur)→St:=fun s=>[(8,A.val (Ag s.1)),(7,A.val ((rP true (Aw true)) s.2.1)),(6,A.val (Ag (x6))),(5,A.val ((rP true (Ae true)) (x5))),(4,A.val (Ag (r4))),(2,A.val ((rP true (Ae true)) ({ Size:=(0:Int),Ops:=Al SOp }))),(0,A.ref 132 []),(132,A.val ((rP true (Am false)) s.2.2))]
def M9 (r4:Int) (x6:Int) (x5:SAlgebra):(SOp×Sl1Cur)→Tgt
 | s=>((Ex.exit 2),[7,6,5,4,2,0,132],[(7,A.val ((rP true (Aw true)) s.1)),(6,A.val (Ag (x6))),(5,A.val ((rP true (Ae true)) (x5))),(4,A.val (Ag (r4))),(2,A.val ((rP true (Ae true)) ({ Size:=(0:Int),Ops:=Al SOp }))),(0,A.ref 132 []),(132,A.val ((rP true (Am false)) s.2))])
theorem Y9 {r4:Int} {x6:Int} {x5:SAlgebra} (s:(Int×SOp×Sl1Cur)) (o:(Int×SOp×Sl1Cur) ⊕ (SOp×Sl1Cur)) (h:D6 r4 x6 x5 s=some o):vc Tryz.prog Nk (Cr [8,7,6,5,4,2,0,132] (Ii r4 x6 x5) (M9 r4 x6 x5) o) (Ii r4 x6 x5 s):=by
 obtain ⟨x8,x7,x132'⟩:=s
 unfold D6 at h
 try dsimp only at h
 refine Br.od h (fun p15 h=> ?_) (fun p15 h=> ?_)
 ·refine Cells.lit rfl rfl<|LendP.io Ag (rP true (Am false)) (by rfl) (fun _=>rfl) (fun _=>⟨rfl,rfl⟩) (fun _=>rfl) h (fun r h=>Bh h) (fun r16 u17 h=> ?_)
  refine BslQ.o Ag [r16] (by exact fun _=>⟨rfl,rfl⟩) (by first | rfl | (simp only [Aa,V.fz,fzL,V.up,upL,Ab,Ac,Ad,slr,List.cons_append,List.nil_append];done) | simp [Aa,V.fz,fzL,V.up,upL,Ab,Ac,Ad,slr])<|NoOwn.o (fun _=>rfl)<|Kid.lit rfl rfl<|Kid.lit rfl rfl<|SetKids.lit rfl<|AppQ.o (m:=1) Ag (by exact fun _=>⟨rfl,rfl⟩) (x7.Table) ([r16]) (by rfl) (by rfl) h fun h=>SetKids.lit rfl<|Ask.o h fun p18 h=> ?_
  cases h;exact ⟨rfl,rfl⟩
 cases h;exact ⟨rfl,rfl⟩
noncomputable def Eb (r4:Int):(Int×SAlgebra×Sl1Cur)→Option ((Int×SAlgebra×Sl1Cur) ⊕ (SAlgebra×Sl1Cur)):=fun (x6,x5,x132)=>
 if x6>(0:Int) then
 (B9 (x132) ([(0:Int),(1:Int),(2:Int),(2:Int),(3:Int)])).bind fun (r9,u10)=>
 ((if r4=(4:Int) then
 if r9=(3:Int) then
 some ({ Arity:=(2:Int),Table:=Al Int })
 else
 some ({ Arity:=r9,Table:=Al Int })
 else
 some ({ Arity:=r9,Table:=Al Int }):Option SOp)).bind fun q13_7=>
 (Hh (r4) (q13_7.Arity)).bind fun r14=>
 (Aj (D6 r4 x6 x5) (r14,q13_7,u10)).bind fun (q19_7,q19_132)=>
 ask ((x5.Ops).length+([q19_7]).length≤LIM) <|
 ask (InI (x6-(1:Int))) <|
 some (.inl (x6-(1:Int),{ Size:=x5.Size,Ops:=x5.Ops++[q19_7] },q19_132))
 else
 some (.inr (x5,x132))
def Ic (r4:Int):(Int×SAlgebra×Sl1Cur)→St:=fun s=>[(6,A.val (Ag s.1)),(5,A.val ((rP true (Ae true)) s.2.1)),(4,A.val (Ag (r4))),(2,A.val ((rP true (Ae true)) ({ Size:=(0:Int),Ops:=Al SOp }))),(0,A.ref 132 []),(132,A.val ((rP true (Am false)) s.2.2))]
def Nb (r4:Int):(SAlgebra×Sl1Cur)→Tgt
 | s=>((Ex.exit 0),[5,4,2,0,132],[(5,A.val ((rP true (Ae true)) s.1)),(4,A.val (Ag (r4))),(2,A.val ((rP true (Ae true)) ({ Size:=(0:Int),Ops:=Al SOp }))),(0,A.ref 132 []),(132,A.val ((rP true (Am false)) s.2))])
theorem Xq {r4:Int} (s:(Int×SAlgebra×Sl1Cur)) (o:(Int×SAlgebra×Sl1Cur) ⊕ (SAlgebra×Sl1Cur)) (h:Eb r4 s=some o):vc Tryz.prog Nh (Cr [6,5,4,2,0,132] (Ic r4) (Nb r4) o) (Ic r4 s):=by
 obtain ⟨x6,x5,x132⟩:=s
 unfold Eb at h
 try dsimp only at h
 refine Br.od h (fun p8 h=> ?_) (fun p8 h=> ?_)
 ·refine BslQ.o Ag ([(0:Int),(1:Int),(2:Int),(2:Int),(3:Int)]) (by exact fun _=>⟨rfl,rfl⟩) (by first | rfl | (simp only [Aa,V.fz,fzL,V.up,upL,Ab,Ac,Ad,slr,List.cons_append,List.nil_append];done) | simp [Aa,V.fz,fzL,V.up,upL,Ab,Ac,Ad,slr])<|CallQ.io Ag (rP true (Am false)) (by first | rfl | (simp only [Aa,Ak,V.fz,fzL,Ab,Ac,slr];done) | simp [Aa,Ak,V.fz,fzL,V.up,upL,Ab,Ac,Ad,slr]) rfl (fun _=>rfl) (fun _=>⟨rfl,rfl⟩) rfl h (fun r h=>C1 h) (fun r9 u10 h=> ?_)
  refine SetKids.lit rfl<|CutQ.o (fun t:SOp=>match t with | s=>(Ex.normal,[7,6,5,4,2,0,132],[(7,A.val ((rP true (Aw true)) s)),(6,A.val (Ag (x6))),(5,A.val ((rP true (Ae true)) (x5))),(4,A.val (Ag (r4))),(2,A.val ((rP true (Ae true)) ({ Size:=(0:Int),Ops:=Al SOp }))),(0,A.ref 132 []),(132,A.val ((rP true (Am false)) (u10)))])) h ?_ ?_
  ·intro t h
   refine Br.oe h (fun p11 h=> ?_) (fun p11 h=> ?_)
   ·refine Br.yes<|Cells.lit rfl rfl<|Br.yes<|Br.yes<|Br.oe h (fun p12 h=> ?_) (fun p12 h=> ?_)
    ·refine SetKids.lit rfl ?_
     cases h;exact ⟨rfl,rfl⟩
    cases h;exact ⟨rfl,rfl⟩
   refine Br.no<|Br.no<|Br.no<|Br.no ?_
   cases h;exact ⟨rfl,rfl⟩
  rintro q13_7 h
  try dsimp only at h
  refine Cells.lit rfl rfl<|CallQ.o Ag (by rfl) h (fun r h=>Zo h) (fun r14 h=> ?_)
  refine LoopQ.o [8,7,6,5,4,2,0,132] (Ii r4 x6 x5) (M9 r4 x6 x5) h (fun s o h=>Y9 s o h) (by rfl) (fun _=>rfl) ?_
  rintro ⟨q19_7,q19_132⟩ h
  try dsimp only at h
  refine Cells.lit rfl rfl<|Cells.lit rfl rfl<|BslQ.o (Aw true) [q19_7] (by exact fun _=>⟨rfl,rfl⟩) (by first | rfl | (simp only [Aa,V.fz,fzL,V.up,upL,Ab,Ac,Ad,slr,List.cons_append,List.nil_append];done) | simp [Aa,V.fz,fzL,V.up,upL,Ab,Ac,Ad,slr])<|NoOwn.own rfl<|Kid.lit rfl rfl<|Kid.lit rfl rfl<|SetKids.lit rfl<|AppQ.o (m:=2) (Aw true) (by exact fun _=>⟨rfl,rfl⟩) (x5.Ops) ([q19_7]) (by rfl) (by rfl) h fun h=>SetKids.lit rfl<|Ask.o h fun p20 h=> ?_
  cases h;exact ⟨rfl,rfl⟩
 cases h;exact ⟨rfl,rfl⟩
noncomputable def D9 (r4:Int):(SAlgebra×Sl1Cur)→Option ((SAlgebra×Sl1Cur) ⊕ (SAlgebra×Sl1Cur)):=fun (x5,x132)=>
 (A9 (x132) ((2:Int))).bind fun (r52,u53)=>
 ask (InI ((4:Int)+r52)) <|
 if (↑x5.Ops.length:Int)<(4:Int)+r52 then
 ask ((0:Int)≤r4∧r4≤(↑LIM:Int)) <|
 ask ((x5.Ops).length+(([{ Arity:=(1:Int),Table:=List.replicate r4.toNat (0:Int) }]:List SOp)).length≤LIM) <|
 some (.inl ({ Size:=x5.Size,Ops:=x5.Ops++[{ Arity:=(1:Int),Table:=List.replicate r4.toNat (0:Int) }] },u53))
 else
 some (.inr (x5,u53))
def Ik (r4:Int):(SAlgebra×Sl1Cur)→St:=fun s=>[(5,A.val ((rP true (Ae true)) s.1)),(4,A.val (Ag (r4))),(2,A.val ((rP true (Ae true)) ({ Size:=(0:Int),Ops:=Al SOp }))),(0,A.ref 132 []),(132,A.val ((rP true (Am false)) s.2))]
def Nl (_r4:Int):(SAlgebra×Sl1Cur)→Tgt
 | s=>((Ex.exit 5),[5,2,132],[(5,A.val ((rP true (Ae true)) s.1)),(2,A.val ((rP true (Ae true)) ({ Size:=(0:Int),Ops:=Al SOp }))),(132,A.val ((rP true (Am false)) s.2))])
theorem Yf {r4:Int} (s:(SAlgebra×Sl1Cur)) (o:(SAlgebra×Sl1Cur) ⊕ (SAlgebra×Sl1Cur)) (h:D9 r4 s=some o):vc Tryz.prog Nj (Cr [5,4,2,0,132] (Ik r4) (Nl r4) o) (Ik r4 s):=by
 obtain ⟨x5,x132⟩:=s
 unfold D9 at h
 try dsimp only at h
 refine Cells.lit rfl rfl<|Kid.lit rfl rfl<|Len.map<|LendP.io Ag (rP true (Am false)) (by rfl) (fun _=>rfl) (fun _=>⟨rfl,rfl⟩) (fun _=>rfl) h (fun r h=>Bh h) (fun r52 u53 h=> ?_)
 refine Ask.o h fun p54 h=>Br.od h (fun p55 h=> ?_) (fun p55 h=> ?_)
 ·refine Cells.lit rfl rfl<|SameQ.mk ⟨rfl,?_⟩
  refine Cells.lit rfl rfl<|SameQ.mk ⟨rfl,?_⟩
  refine SameQ.mk ⟨rfl,?_⟩
  refine Ask.o h fun p56 h=>MkQ.o Ag ((0:Int)) rfl<|SameQ.mk ⟨rfl,?_⟩
  refine Cells.lit rfl rfl<|SameQ.mk ⟨rfl,?_⟩
  refine SameQ.mk ⟨rfl,?_⟩
  refine Cells.lit rfl rfl<|SameQ.mk ⟨rfl,?_⟩
  refine BslQ.o (Aw true) ([{ Arity:=(1:Int),Table:=List.replicate r4.toNat (0:Int) }]) (by exact fun _=>⟨rfl,rfl⟩) (by first | rfl | (simp only [Aa,V.fz,fzL,V.up,upL,Ab,Ac,Ad,slr,List.cons_append,List.nil_append];done) | simp [Aa,V.fz,fzL,V.up,upL,Ab,Ac,Ad,slr])<|SameQ.mk ⟨rfl,?_⟩
  refine Cells.lit rfl rfl<|SameQ.mk ⟨rfl,?_⟩
  refine NoOwn.own rfl<|Kid.lit rfl rfl<|Kid.lit rfl rfl<|SetKids.lit rfl<|AppQ.o (m:=2) (Aw true) (by exact fun _=>⟨rfl,rfl⟩) (x5.Ops) ([{ Arity:=(1:Int),Table:=List.replicate r4.toNat (0:Int) }]) (by rfl) (by rfl) h fun h=>SetKids.lit rfl ?_
  cases h;exact ⟨rfl,rfl⟩
 cases h;exact ⟨rfl,rfl⟩
noncomputable def Cm (c0:Sl1Cur):Option (SAlgebra×Sl1Cur):=
 (Gp (c0) ((4:Int))).bind fun (r1,u2)=>
 if (r1)=true then
 (B9 (u2) ([(2:Int),(2:Int),(3:Int),(3:Int),(4:Int)])).bind fun (r4,u5)=>
 (B9 (u5) ([(1:Int),(1:Int),(2:Int)])).bind fun (r6,u7)=>
 (Aj (Eb r4) (r6,{ Size:=r4,Ops:=Al SOp },u7)).bind fun (q21_5,q21_132)=>
 (A9 (q21_132) ((16:Int))).bind fun (r22,u23)=>
 if r22=(0:Int) then
 ask (InI (r4+(1:Int))) <|
 (B9 (u23) ([(0:Int),(9:Int),r4+(1:Int)])).bind fun (r26,u27)=>
 some ({ Size:=r26,Ops:=q21_5.Ops },u27)
 else
 if r22=(1:Int) then
 ask ((0:Int)≤(0:Int)∧(0:Int)<(↑q21_5.Ops.length:Int)) <|
 ask (((nth q21_5.Ops (Int.toNat (0:Int))).Table).length+([(0:Int)]).length≤LIM) <|
 some ({ Size:=q21_5.Size,Ops:=q21_5.Ops.set (Int.toNat (0:Int)) { Arity:=(nth q21_5.Ops (Int.toNat (0:Int))).Arity,Table:=(nth q21_5.Ops (Int.toNat (0:Int))).Table++[(0:Int)] } },u23)
 else
 if r22=(2:Int) then
 ask ((0:Int)≤(0:Int)∧(0:Int)<(↑q21_5.Ops.length:Int)) <|
 (A9 (u23) ((↑(nth q21_5.Ops (Int.toNat (0:Int))).Table.length:Int))).bind fun (r32,u33)=>
 (B9 (u33) ([(-1:Int),r4])).bind fun (r34,u35)=>
 ask ((0:Int)≤r32∧r32<(↑(nth q21_5.Ops (Int.toNat (0:Int))).Table.length:Int)) <|
 some ({ Size:=q21_5.Size,Ops:=q21_5.Ops.set (Int.toNat (0:Int)) { Arity:=(nth q21_5.Ops (Int.toNat (0:Int))).Arity,Table:=(nth q21_5.Ops (Int.toNat (0:Int))).Table.set r32.toNat r34 } },u35)
 else
 if r22=(3:Int) then
 (B9 (u23) ([(-1:Int),(4:Int)])).bind fun (r48,u49)=>
 ask ((0:Int)≤(0:Int)∧(0:Int)<(↑q21_5.Ops.length:Int)) <|
 some ({ Size:=q21_5.Size,Ops:=q21_5.Ops.set (Int.toNat (0:Int)) { Arity:=r48,Table:=(nth q21_5.Ops (Int.toNat (0:Int))).Table } },u49)
 else
 if r22=(4:Int) then
 (Aj (D9 r4) (q21_5,u23)).bind fun (q57_5,q57_132)=>
 some (q57_5,q57_132)
 else
 some (q21_5,u23)
 else
 (A9 (u2) ((17:Int))).bind fun (r58,u59)=>
 (K7 (r58)).bind fun r60=>
 some (r60,u59)
theorem Fp {c0:Sl1Cur} {v:(SAlgebra×Sl1Cur)} (h:Cm c0=some v):I9 Tryz.prog D5 [(rP true (Am false)) c0] ((Ae true) v.1) 0 ((rP true (Am false)) v.2):=by
 refine Lg Acq (Nat.le_of_ble_eq_true rfl) ?_
 unfold Cm at h
 refine CallQ.io V.bool (rP true (Am false)) (by rfl) rfl (fun _=>rfl) (fun _=>⟨rfl,rfl⟩) rfl h (fun r h=>Zc h) (fun r1 u2 h=> ?_)
 refine Br.flip ?_
 refine Br.ob h (fun p3 h=> ?_) (fun p3 h=> ?_)
 ·refine BslQ.o Ag ([(2:Int),(2:Int),(3:Int),(3:Int),(4:Int)]) (by exact fun _=>⟨rfl,rfl⟩) (by first | rfl | (simp only [Aa,V.fz,fzL,V.up,upL,Ab,Ac,Ad,slr,List.cons_append,List.nil_append];done) | simp [Aa,V.fz,fzL,V.up,upL,Ab,Ac,Ad,slr]) ?_
  refine CallQ.io Ag (rP true (Am false)) (by first | rfl | (simp only [Aa,Ak,V.fz,fzL,Ab,Ac,slr];done) | simp [Aa,Ak,V.fz,fzL,V.up,upL,Ab,Ac,Ad,slr]) rfl (fun _=>rfl) (fun _=>⟨rfl,rfl⟩) rfl h (fun r h=>C1 h) (fun r4 u5 h=> ?_)
  refine SetKids.lit rfl ?_
  refine BslQ.o Ag ([(1:Int),(1:Int),(2:Int)]) (by exact fun _=>⟨rfl,rfl⟩) (by first | rfl | (simp only [Aa,V.fz,fzL,V.up,upL,Ab,Ac,Ad,slr,List.cons_append,List.nil_append];done) | simp [Aa,V.fz,fzL,V.up,upL,Ab,Ac,Ad,slr]) ?_
  refine CallQ.io Ag (rP true (Am false)) (by first | rfl | (simp only [Aa,Ak,V.fz,fzL,Ab,Ac,slr];done) | simp [Aa,Ak,V.fz,fzL,V.up,upL,Ab,Ac,Ad,slr]) rfl (fun _=>rfl) (fun _=>⟨rfl,rfl⟩) rfl h (fun r h=>C1 h) (fun r6 u7 h=> ?_)
  refine LoopQ.o [6,5,4,2,0,132] (Ic r4) (Nb r4) h (fun s o h=>Xq s o h) (by rfl) (fun _=>rfl) ?_
  rintro ⟨q21_5,q21_132⟩ h
  try dsimp only at h
  refine CallQ.io Ag (rP true (Am false)) (by rfl) rfl (fun _=>rfl) (fun _=>⟨rfl,rfl⟩) rfl h (fun r h=>Bh h) (fun r22 u23 h=> ?_)
  refine Br.oe h (fun p24 h=> ?_) (fun p24 h=> ?_)
  ·refine Ask.o h fun p25 h=> ?_
   refine BslQ.o Ag ([(0:Int),(9:Int),r4+(1:Int)]) (by exact fun _=>⟨rfl,rfl⟩) (by first | rfl | (simp only [Aa,V.fz,fzL,V.up,upL,Ab,Ac,Ad,slr,List.cons_append,List.nil_append];done) | simp [Aa,V.fz,fzL,V.up,upL,Ab,Ac,Ad,slr]) ?_
   refine CallQ.io Ag (rP true (Am false)) (by first | rfl | (simp only [Aa,Ak,V.fz,fzL,Ab,Ac,slr];done) | simp [Aa,Ak,V.fz,fzL,V.up,upL,Ab,Ac,Ad,slr]) rfl (fun _=>rfl) (fun _=>⟨rfl,rfl⟩) rfl h (fun r h=>C1 h) (fun r26 u27 h=> ?_)
   refine SetKids.lit rfl ?_
   refine Cells.lit rfl rfl ?_
   refine SetKids.lit rfl ?_
   cases h;exact ⟨(by rfl),(by rfl)⟩
  refine Br.oe h (fun p28 h=> ?_) (fun p28 h=> ?_)
  ·refine Cells.lit rfl rfl ?_
   refine Cells.lit rfl rfl ?_
   refine Kid.lit rfl rfl ?_
   refine Len.map ?_
   refine Ask.o h fun p29 h=> ?_
   refine Kid.lit rfl rfl ?_
   refine Cells.wide (by exact fun _=>⟨rfl,rfl⟩) (by first | omega | (simp [Aq] at * <;> omega)) (by decide) ?_
   refine SameQ.mk ⟨rfl,?_⟩
   refine Cells.lit rfl rfl ?_
   refine SameQ.mk ⟨rfl,?_⟩
   refine SameQ.mk ⟨rfl,?_⟩
   refine Cells.lit rfl rfl ?_
   refine SameQ.mk ⟨rfl,?_⟩
   refine Kid.lit rfl rfl ?_
   refine Len.map ?_
   refine Ask.mk p29 ?_
   refine SameQ.mk ⟨rfl,?_⟩
   refine SameQ.mk ⟨rfl,?_⟩
   refine Kid.lit rfl rfl ?_
   refine Cells.wide (by exact fun _=>⟨rfl,rfl⟩) (by first | omega | (simp [Aq] at * <;> omega)) (by decide) ?_
   refine SameQ.mk ⟨rfl,?_⟩
   refine BslQ.o Ag ([(0:Int)]) (by exact fun _=>⟨rfl,rfl⟩) (by first | rfl | (simp only [Aa,V.fz,fzL,V.up,upL,Ab,Ac,Ad,slr,List.cons_append,List.nil_append];done) | simp [Aa,V.fz,fzL,V.up,upL,Ab,Ac,Ad,slr]) ?_
   refine SameQ.mk ⟨rfl,?_⟩
   refine Cells.lit rfl rfl ?_
   refine SameQ.mk ⟨rfl,?_⟩
   refine SameQ.mk ⟨rfl,?_⟩
   refine Cells.lit rfl rfl ?_
   refine SameQ.mk ⟨rfl,?_⟩
   refine Kid.lit rfl rfl ?_
   refine Len.map ?_
   refine Ask.mk p29 ?_
   refine SameQ.mk ⟨rfl,?_⟩
   refine SameQ.mk ⟨rfl,?_⟩
   refine Kid.lit rfl rfl ?_
   refine Cells.wide (by exact fun _=>⟨rfl,rfl⟩) (by first | omega | (simp [Aq] at * <;> omega)) (by decide) ?_
   refine SameQ.mk ⟨rfl,?_⟩
   refine NoOwn.o (fun _=>rfl) ?_
   refine Kid.lit rfl rfl ?_
   refine Kid.wide (by exact fun _=>⟨rfl,rfl⟩) (by first | omega | (simp [Aq] at * <;> omega)) (by rfl) ?_
   refine Kid.lit rfl rfl ?_
   refine Kid.wide (by exact fun _=>⟨rfl,rfl⟩) (by first | omega | (simp [Aq] at * <;> omega)) (by rfl) ?_
   refine SetKids.mkholeW (by exact fun _=>⟨rfl,rfl⟩) _ (by first | omega | (simp [Aq] at * <;> omega)) (by rfl) (by decide) ?_
   refine SetKids.lit rfl ?_
   refine AppQ.o (m:=1) Ag (by exact fun _=>⟨rfl,rfl⟩) ((nth q21_5.Ops (Int.toNat (0:Int))).Table) ([(0:Int)]) (by rfl) (by rfl) h fun h=> ?_
   refine SameQ.mk ⟨rfl,?_⟩
   refine Cells.lit rfl rfl ?_
   refine SameQ.mk ⟨rfl,?_⟩
   refine Kid.lit rfl rfl ?_
   refine Len.holeW ?_
   refine Ask.mk p29 ?_
   refine Kid.lit rfl rfl ?_
   refine SetKids.fillW (by exact fun _=>⟨rfl,rfl⟩) ({ Arity:=(nth q21_5.Ops (Int.toNat (0:Int))).Arity,Table:=(nth q21_5.Ops (Int.toNat (0:Int))).Table++[(0:Int)] }) (by first | omega | (simp [Aq] at * <;> omega)) (by rfl) (by rfl) (by decide) ?_
   refine Kid.lit rfl rfl ?_
   refine SetKids.lit rfl ?_
   refine Cells.lit rfl rfl ?_
   refine SetKids.lit rfl ?_
   cases h;exact ⟨(by rfl),(by rfl)⟩
  refine Br.oe h (fun p30 h=> ?_) (fun p30 h=> ?_)
  ·refine Cells.lit rfl rfl ?_
   refine Kid.lit rfl rfl ?_
   refine Len.map ?_
   refine Ask.o h fun p31 h=> ?_
   refine Kid.lit rfl rfl ?_
   refine Cells.wide (by exact fun _=>⟨rfl,rfl⟩) (by first | omega | (simp [Aq] at * <;> omega)) (by decide) ?_
   refine Cells.lit rfl rfl ?_
   refine Kid.lit rfl rfl ?_
   refine Len.map ?_
   refine Ask.mk p31 ?_
   refine Kid.lit rfl rfl ?_
   refine Cells.wide (by exact fun _=>⟨rfl,rfl⟩) (by first | omega | (simp [Aq] at * <;> omega)) (by decide) ?_
   refine Two.mk ⟨?_,?_⟩
   ·refine SameQ.mk ⟨rfl,?_⟩
    refine Cells.lit rfl rfl ?_
    refine SameQ.mk ⟨rfl,?_⟩
    refine Kid.lit rfl rfl ?_
    refine Len.map ?_
    refine Ask.mk p31 ?_
    refine SameQ.mk ⟨rfl,?_⟩
    refine SameQ.mk ⟨rfl,?_⟩
    refine Kid.lit rfl rfl ?_
    refine Cells.wide (by exact fun _=>⟨rfl,rfl⟩) (by first | omega | (simp [Aq] at * <;> omega)) (by decide) ?_
    refine SameQ.mk ⟨rfl,?_⟩
    refine SameQ.mk ⟨rfl,?_⟩
    refine SameQ.mk ⟨rfl,?_⟩
    refine Cells.lit rfl rfl ?_
    refine SameQ.mk ⟨rfl,?_⟩
    refine Kid.lit rfl rfl ?_
    refine Len.map ?_
    refine Ask.mk p31 ?_
    refine SameQ.mk ⟨rfl,?_⟩
    refine SameQ.mk ⟨rfl,?_⟩
    refine Kid.lit rfl rfl ?_
    refine Cells.wide (by exact fun _=>⟨rfl,rfl⟩) (by first | omega | (simp [Aq] at * <;> omega)) (by decide) ?_
    refine SameQ.mk ⟨rfl,?_⟩
    refine SameQ.mk ⟨rfl,?_⟩
    refine SameQ.mk ⟨rfl,?_⟩
    refine Kid.lit rfl rfl ?_
    refine Kid.wide (by exact fun _=>⟨rfl,rfl⟩) (by first | omega | (simp [Aq] at * <;> omega)) (by rfl) ?_
    refine Len.map ?_
    refine Two.mk ⟨?_,?_⟩
    ·refine SameQ.mk ⟨rfl,?_⟩
     refine Cells.lit rfl rfl ?_
     refine SameQ.mk ⟨rfl,?_⟩
     refine Kid.lit rfl rfl ?_
     refine Len.map ?_
     refine Ask.mk p31 ?_
     refine SameQ.mk ⟨rfl,?_⟩
     refine SameQ.mk ⟨rfl,?_⟩
     refine Kid.lit rfl rfl ?_
     refine Cells.wide (by exact fun _=>⟨rfl,rfl⟩) (by first | omega | (simp [Aq] at * <;> omega)) (by decide) ?_
     refine SameQ.mk ⟨rfl,?_⟩
     refine SameQ.mk ⟨rfl,?_⟩
     refine SameQ.mk ⟨rfl,?_⟩
     refine SameQ.mk ⟨rfl,?_⟩
     refine CallQ.io Ag (rP true (Am false)) (by rfl) rfl (fun _=>rfl) (fun _=>⟨rfl,rfl⟩) rfl h (fun r h=>Bh h) (fun r32 u33 h=> ?_)
     refine SameQ.mk ⟨rfl,?_⟩
     refine Cells.lit rfl rfl ?_
     refine SameQ.mk ⟨rfl,?_⟩
     refine Kid.lit rfl rfl ?_
     refine Len.map ?_
     refine Ask.mk p31 ?_
     refine SameQ.mk ⟨rfl,?_⟩
     refine SameQ.mk ⟨rfl,?_⟩
     refine Kid.lit rfl rfl ?_
     refine Cells.wide (by exact fun _=>⟨rfl,rfl⟩) (by first | omega | (simp [Aq] at * <;> omega)) (by decide) ?_
     refine SameQ.mk ⟨rfl,?_⟩
     refine SameQ.mk ⟨rfl,?_⟩
     refine SameQ.mk ⟨rfl,?_⟩
     refine BslQ.o Ag ([(-1:Int),r4]) (by exact fun _=>⟨rfl,rfl⟩) (by first | rfl | (simp only [Aa,V.fz,fzL,V.up,upL,Ab,Ac,Ad,slr,List.cons_append,List.nil_append];done) | simp [Aa,V.fz,fzL,V.up,upL,Ab,Ac,Ad,slr]) ?_
     refine SameQ.mk ⟨rfl,?_⟩
     refine Cells.lit rfl rfl ?_
     refine SameQ.mk ⟨rfl,?_⟩
     refine Kid.lit rfl rfl ?_
     refine Len.map ?_
     refine Ask.mk p31 ?_
     refine SameQ.mk ⟨rfl,?_⟩
     refine SameQ.mk ⟨rfl,?_⟩
     refine Kid.lit rfl rfl ?_
     refine Cells.wide (by exact fun _=>⟨rfl,rfl⟩) (by first | omega | (simp [Aq] at * <;> omega)) (by decide) ?_
     refine SameQ.mk ⟨rfl,?_⟩
     refine SameQ.mk ⟨rfl,?_⟩
     refine CallQ.io Ag (rP true (Am false)) (by first | rfl | (simp only [Aa,Ak,V.fz,fzL,Ab,Ac,slr];done) | simp [Aa,Ak,V.fz,fzL,V.up,upL,Ab,Ac,Ad,slr]) rfl (fun _=>rfl) (fun _=>⟨rfl,rfl⟩) rfl h (fun r h=>C1 h) (fun r34 u35 h=> ?_)
     refine SameQ.mk ⟨rfl,?_⟩
     refine Cells.lit rfl rfl ?_
     refine SameQ.mk ⟨rfl,?_⟩
     refine Kid.lit rfl rfl ?_
     refine Len.map ?_
     refine Ask.mk p31 ?_
     refine SameQ.mk ⟨rfl,?_⟩
     refine SameQ.mk ⟨rfl,?_⟩
     refine Kid.lit rfl rfl ?_
     refine Cells.wide (by exact fun _=>⟨rfl,rfl⟩) (by first | omega | (simp [Aq] at * <;> omega)) (by decide) ?_
     refine SameQ.mk ⟨rfl,?_⟩
     refine Kid.lit rfl rfl ?_
     refine Kid.wide (by exact fun _=>⟨rfl,rfl⟩) (by first | omega | (simp [Aq] at * <;> omega)) (by rfl) ?_
     refine Len.map ?_
     refine Ask.o h fun p36 h=> ?_
     refine Kid.lit rfl rfl ?_
     refine Kid.wide (by exact fun _=>⟨rfl,rfl⟩) (by first | omega | (simp [Aq] at * <;> omega)) (by rfl) ?_
     refine SetKids.one (fun _=>⟨rfl,rfl⟩) (r34) (by rfl) (by first | omega | (simp [Aq] at * <;> omega)) ?_
     refine Kid.lit rfl rfl ?_
     refine Kid.wide (by exact fun _=>⟨rfl,rfl⟩) (by first | omega | (simp [Aq] at * <;> omega)) (by rfl) ?_
     refine SetKids.wide (by exact fun _=>⟨rfl,rfl⟩) ({ Arity:=(nth q21_5.Ops (Int.toNat (0:Int))).Arity,Table:=(nth q21_5.Ops (Int.toNat (0:Int))).Table.set r32.toNat r34 }) (by first | omega | (simp [Aq] at * <;> omega)) (by rfl) (by decide) ?_
     refine SetKids.lit rfl ?_
     refine Cells.lit rfl rfl ?_
     refine SetKids.lit rfl ?_
     cases h;exact ⟨(by rfl),(by rfl)⟩
    refine SameQ.mk ⟨rfl,?_⟩
    refine Cells.lit rfl rfl ?_
    refine SameQ.mk ⟨rfl,?_⟩
    refine Kid.lit rfl rfl ?_
    refine Len.map ?_
    refine Ask.mk p31 ?_
    refine SameQ.mk ⟨rfl,?_⟩
    refine SameQ.mk ⟨rfl,?_⟩
    refine Kid.lit rfl rfl ?_
    refine Cells.wide (by exact fun _=>⟨rfl,rfl⟩) (by first | omega | (simp [Aq] at * <;> omega)) (by decide) ?_
    refine SameQ.mk ⟨rfl,?_⟩
    refine SameQ.mk ⟨rfl,?_⟩
    refine SameQ.mk ⟨rfl,?_⟩
    refine SameQ.mk ⟨rfl,?_⟩
    refine BslQ.o Ag ([(-1:Int),r4]) (by exact fun _=>⟨rfl,rfl⟩) (by first | rfl | (simp only [Aa,V.fz,fzL,V.up,upL,Ab,Ac,Ad,slr,List.cons_append,List.nil_append];done) | simp [Aa,V.fz,fzL,V.up,upL,Ab,Ac,Ad,slr]) ?_
    refine SameQ.mk ⟨rfl,?_⟩
    refine Cells.lit rfl rfl ?_
    refine SameQ.mk ⟨rfl,?_⟩
    refine Kid.lit rfl rfl ?_
    refine Len.map ?_
    refine Ask.mk p31 ?_
    refine SameQ.mk ⟨rfl,?_⟩
    refine SameQ.mk ⟨rfl,?_⟩
    refine Kid.lit rfl rfl ?_
    refine Cells.wide (by exact fun _=>⟨rfl,rfl⟩) (by first | omega | (simp [Aq] at * <;> omega)) (by decide) ?_
    refine SameQ.mk ⟨rfl,?_⟩
    refine SameQ.mk ⟨rfl,?_⟩
    refine SameQ.mk ⟨rfl,?_⟩
    refine CallQ.io Ag (rP true (Am false)) (by rfl) rfl (fun _=>rfl) (fun _=>⟨rfl,rfl⟩) rfl h (fun r h=>Bh h) (fun r37 u38 h=> ?_)
    refine SameQ.mk ⟨rfl,?_⟩
    refine Cells.lit rfl rfl ?_
    refine SameQ.mk ⟨rfl,?_⟩
    refine Kid.lit rfl rfl ?_
    refine Len.map ?_
    refine Ask.mk p31 ?_
    refine SameQ.mk ⟨rfl,?_⟩
    refine SameQ.mk ⟨rfl,?_⟩
    refine Kid.lit rfl rfl ?_
    refine Cells.wide (by exact fun _=>⟨rfl,rfl⟩) (by first | omega | (simp [Aq] at * <;> omega)) (by decide) ?_
    refine SameQ.mk ⟨rfl,?_⟩
    refine SameQ.mk ⟨rfl,?_⟩
    refine CallQ.io Ag (rP true (Am false)) (by first | rfl | (simp only [Aa,Ak,V.fz,fzL,Ab,Ac,slr];done) | simp [Aa,Ak,V.fz,fzL,V.up,upL,Ab,Ac,Ad,slr]) rfl (fun _=>rfl) (fun _=>⟨rfl,rfl⟩) rfl h (fun r h=>C1 h) (fun r39 u40 h=> ?_)
    refine SameQ.mk ⟨rfl,?_⟩
    refine Cells.lit rfl rfl ?_
    refine SameQ.mk ⟨rfl,?_⟩
    refine Kid.lit rfl rfl ?_
    refine Len.map ?_
    refine Ask.mk p31 ?_
    refine SameQ.mk ⟨rfl,?_⟩
    refine SameQ.mk ⟨rfl,?_⟩
    refine Kid.lit rfl rfl ?_
    refine Cells.wide (by exact fun _=>⟨rfl,rfl⟩) (by first | omega | (simp [Aq] at * <;> omega)) (by decide) ?_
    refine SameQ.mk ⟨rfl,?_⟩
    refine Kid.lit rfl rfl ?_
    refine Kid.wide (by exact fun _=>⟨rfl,rfl⟩) (by first | omega | (simp [Aq] at * <;> omega)) (by rfl) ?_
    refine Len.map ?_
    refine Ask.o h fun p41 h=> ?_
    refine Kid.lit rfl rfl ?_
    refine Kid.wide (by exact fun _=>⟨rfl,rfl⟩) (by first | omega | (simp [Aq] at * <;> omega)) (by rfl) ?_
    refine SetKids.one (fun _=>⟨rfl,rfl⟩) (r39) (by rfl) (by first | omega | (simp [Aq] at * <;> omega)) ?_
    refine Kid.lit rfl rfl ?_
    refine Kid.wide (by exact fun _=>⟨rfl,rfl⟩) (by first | omega | (simp [Aq] at * <;> omega)) (by rfl) ?_
    refine SetKids.wide (by exact fun _=>⟨rfl,rfl⟩) ({ Arity:=(nth q21_5.Ops (Int.toNat (0:Int))).Arity,Table:=(nth q21_5.Ops (Int.toNat (0:Int))).Table.set r37.toNat r39 }) (by first | omega | (simp [Aq] at * <;> omega)) (by rfl) (by decide) ?_
    refine SetKids.lit rfl ?_
    refine Cells.lit rfl rfl ?_
    refine SetKids.lit rfl ?_
    cases h;exact ⟨(by rfl),(by rfl)⟩
   refine SameQ.mk ⟨rfl,?_⟩
   refine Cells.lit rfl rfl ?_
   refine SameQ.mk ⟨rfl,?_⟩
   refine Kid.lit rfl rfl ?_
   refine Len.map ?_
   refine Ask.mk p31 ?_
   refine SameQ.mk ⟨rfl,?_⟩
   refine SameQ.mk ⟨rfl,?_⟩
   refine Kid.lit rfl rfl ?_
   refine Cells.wide (by exact fun _=>⟨rfl,rfl⟩) (by first | omega | (simp [Aq] at * <;> omega)) (by decide) ?_
   refine SameQ.mk ⟨rfl,?_⟩
   refine SameQ.mk ⟨rfl,?_⟩
   refine SameQ.mk ⟨rfl,?_⟩
   refine Cells.lit rfl rfl ?_
   refine SameQ.mk ⟨rfl,?_⟩
   refine Kid.lit rfl rfl ?_
   refine Len.map ?_
   refine Ask.mk p31 ?_
   refine SameQ.mk ⟨rfl,?_⟩
   refine SameQ.mk ⟨rfl,?_⟩
   refine Kid.lit rfl rfl ?_
   refine Cells.wide (by exact fun _=>⟨rfl,rfl⟩) (by first | omega | (simp [Aq] at * <;> omega)) (by decide) ?_
   refine SameQ.mk ⟨rfl,?_⟩
   refine SameQ.mk ⟨rfl,?_⟩
   refine SameQ.mk ⟨rfl,?_⟩
   refine BslQ.o Ag ([(-1:Int),r4]) (by exact fun _=>⟨rfl,rfl⟩) (by first | rfl | (simp only [Aa,V.fz,fzL,V.up,upL,Ab,Ac,Ad,slr,List.cons_append,List.nil_append];done) | simp [Aa,V.fz,fzL,V.up,upL,Ab,Ac,Ad,slr]) ?_
   refine SameQ.mk ⟨rfl,?_⟩
   refine Cells.lit rfl rfl ?_
   refine SameQ.mk ⟨rfl,?_⟩
   refine Kid.lit rfl rfl ?_
   refine Len.map ?_
   refine Ask.mk p31 ?_
   refine SameQ.mk ⟨rfl,?_⟩
   refine SameQ.mk ⟨rfl,?_⟩
   refine Kid.lit rfl rfl ?_
   refine Cells.wide (by exact fun _=>⟨rfl,rfl⟩) (by first | omega | (simp [Aq] at * <;> omega)) (by decide) ?_
   refine SameQ.mk ⟨rfl,?_⟩
   refine SameQ.mk ⟨rfl,?_⟩
   refine SameQ.mk ⟨rfl,?_⟩
   refine Cells.lit rfl rfl ?_
   refine SameQ.mk ⟨rfl,?_⟩
   refine Kid.lit rfl rfl ?_
   refine Len.map ?_
   refine Ask.mk p31 ?_
   refine SameQ.mk ⟨rfl,?_⟩
   refine SameQ.mk ⟨rfl,?_⟩
   refine Kid.lit rfl rfl ?_
   refine Cells.wide (by exact fun _=>⟨rfl,rfl⟩) (by first | omega | (simp [Aq] at * <;> omega)) (by decide) ?_
   refine SameQ.mk ⟨rfl,?_⟩
   refine SameQ.mk ⟨rfl,?_⟩
   refine Kid.lit rfl rfl ?_
   refine Kid.wide (by exact fun _=>⟨rfl,rfl⟩) (by first | omega | (simp [Aq] at * <;> omega)) (by rfl) ?_
   refine Len.map ?_
   refine SameQ.mk ⟨rfl,?_⟩
   refine Cells.lit rfl rfl ?_
   refine SameQ.mk ⟨rfl,?_⟩
   refine Kid.lit rfl rfl ?_
   refine Len.map ?_
   refine Ask.mk p31 ?_
   refine SameQ.mk ⟨rfl,?_⟩
   refine SameQ.mk ⟨rfl,?_⟩
   refine Kid.lit rfl rfl ?_
   refine Cells.wide (by exact fun _=>⟨rfl,rfl⟩) (by first | omega | (simp [Aq] at * <;> omega)) (by decide) ?_
   refine SameQ.mk ⟨rfl,?_⟩
   refine SameQ.mk ⟨rfl,?_⟩
   refine SameQ.mk ⟨rfl,?_⟩
   refine CallQ.io Ag (rP true (Am false)) (by rfl) rfl (fun _=>rfl) (fun _=>⟨rfl,rfl⟩) rfl h (fun r h=>Bh h) (fun r42 u43 h=> ?_)
   refine SameQ.mk ⟨rfl,?_⟩
   refine Cells.lit rfl rfl ?_
   refine SameQ.mk ⟨rfl,?_⟩
   refine Kid.lit rfl rfl ?_
   refine Len.map ?_
   refine Ask.mk p31 ?_
   refine SameQ.mk ⟨rfl,?_⟩
   refine SameQ.mk ⟨rfl,?_⟩
   refine Kid.lit rfl rfl ?_
   refine Cells.wide (by exact fun _=>⟨rfl,rfl⟩) (by first | omega | (simp [Aq] at * <;> omega)) (by decide) ?_
   refine SameQ.mk ⟨rfl,?_⟩
   refine SameQ.mk ⟨rfl,?_⟩
   refine CallQ.io Ag (rP true (Am false)) (by first | rfl | (simp only [Aa,Ak,V.fz,fzL,Ab,Ac,slr];done) | simp [Aa,Ak,V.fz,fzL,V.up,upL,Ab,Ac,Ad,slr]) rfl (fun _=>rfl) (fun _=>⟨rfl,rfl⟩) rfl h (fun r h=>C1 h) (fun r44 u45 h=> ?_)
   refine SameQ.mk ⟨rfl,?_⟩
   refine Cells.lit rfl rfl ?_
   refine SameQ.mk ⟨rfl,?_⟩
   refine Kid.lit rfl rfl ?_
   refine Len.map ?_
   refine Ask.mk p31 ?_
   refine SameQ.mk ⟨rfl,?_⟩
   refine SameQ.mk ⟨rfl,?_⟩
   refine Kid.lit rfl rfl ?_
   refine Cells.wide (by exact fun _=>⟨rfl,rfl⟩) (by first | omega | (simp [Aq] at * <;> omega)) (by decide) ?_
   refine SameQ.mk ⟨rfl,?_⟩
   refine Kid.lit rfl rfl ?_
   refine Kid.wide (by exact fun _=>⟨rfl,rfl⟩) (by first | omega | (simp [Aq] at * <;> omega)) (by rfl) ?_
   refine Len.map ?_
   refine Ask.o h fun p46 h=> ?_
   refine Kid.lit rfl rfl ?_
   refine Kid.wide (by exact fun _=>⟨rfl,rfl⟩) (by first | omega | (simp [Aq] at * <;> omega)) (by rfl) ?_
   refine SetKids.one (fun _=>⟨rfl,rfl⟩) (r44) (by rfl) (by first | omega | (simp [Aq] at * <;> omega)) ?_
   refine Kid.lit rfl rfl ?_
   refine Kid.wide (by exact fun _=>⟨rfl,rfl⟩) (by first | omega | (simp [Aq] at * <;> omega)) (by rfl) ?_
   refine SetKids.wide (by exact fun _=>⟨rfl,rfl⟩) ({ Arity:=(nth q21_5.Ops (Int.toNat (0:Int))).Arity,Table:=(nth q21_5.Ops (Int.toNat (0:Int))).Table.set r42.toNat r44 }) (by first | omega | (simp [Aq] at * <;> omega)) (by rfl) (by decide) ?_
   refine SetKids.lit rfl ?_
   refine Cells.lit rfl rfl ?_
   refine SetKids.lit rfl ?_
   cases h;exact ⟨(by rfl),(by rfl)⟩
  refine Br.oe h (fun p47 h=> ?_) (fun p47 h=> ?_)
  ·refine Cells.lit rfl rfl ?_
   refine SameQ.mk ⟨rfl,?_⟩
   refine Cells.lit rfl rfl ?_
   refine SameQ.mk ⟨rfl,?_⟩
   refine SameQ.mk ⟨rfl,?_⟩
   refine BslQ.o Ag ([(-1:Int),(4:Int)]) (by exact fun _=>⟨rfl,rfl⟩) (by first | rfl | (simp only [Aa,V.fz,fzL,V.up,upL,Ab,Ac,Ad,slr,List.cons_append,List.nil_append];done) | simp [Aa,V.fz,fzL,V.up,upL,Ab,Ac,Ad,slr]) ?_
   refine SameQ.mk ⟨rfl,?_⟩
   refine Cells.lit rfl rfl ?_
   refine SameQ.mk ⟨rfl,?_⟩
   refine SameQ.mk ⟨rfl,?_⟩
   refine CallQ.io Ag (rP true (Am false)) (by first | rfl | (simp only [Aa,Ak,V.fz,fzL,Ab,Ac,slr];done) | simp [Aa,Ak,V.fz,fzL,V.up,upL,Ab,Ac,Ad,slr]) rfl (fun _=>rfl) (fun _=>⟨rfl,rfl⟩) rfl h (fun r h=>C1 h) (fun r48 u49 h=> ?_)
   refine SameQ.mk ⟨rfl,?_⟩
   refine Cells.lit rfl rfl ?_
   refine SameQ.mk ⟨rfl,?_⟩
   refine Kid.lit rfl rfl ?_
   refine Len.map ?_
   refine Ask.o h fun p50 h=> ?_
   refine Kid.lit rfl rfl ?_
   refine SetKids.wide (by exact fun _=>⟨rfl,rfl⟩) ({ Arity:=r48,Table:=(nth q21_5.Ops (Int.toNat (0:Int))).Table }) (by first | omega | (simp [Aq] at * <;> omega)) (by rfl) (by decide) ?_
   refine Kid.lit rfl rfl ?_
   refine SetKids.lit rfl ?_
   refine Cells.lit rfl rfl ?_
   refine SetKids.lit rfl ?_
   cases h;exact ⟨(by rfl),(by rfl)⟩
  refine Br.oe h (fun p51 h=> ?_) (fun p51 h=> ?_)
  ·refine LoopQ.o [5,4,2,0,132] (Ik r4) (Nl r4) h (fun s o h=>Yf s o h) (by rfl) (fun _=>rfl) ?_
   rintro ⟨q57_5,q57_132⟩ h
   try dsimp only at h
   refine Cells.lit rfl rfl ?_
   refine SetKids.lit rfl ?_
   cases h;exact ⟨(by rfl),(by rfl)⟩
  refine Cells.lit rfl rfl ?_
  refine SetKids.lit rfl ?_
  cases h;exact ⟨(by rfl),(by rfl)⟩
 refine CallQ.io Ag (rP true (Am false)) (by rfl) rfl (fun _=>rfl) (fun _=>⟨rfl,rfl⟩) rfl h (fun r h=>Bh h) (fun r58 u59 h=> ?_)
 refine CallQ.o (Ae true) (by rfl) h (fun r h=>Am6 h) (fun r60 h=> ?_)
 refine SetKids.lit rfl ?_
 refine Cells.lit rfl rfl ?_
 refine SetKids.lit rfl ?_
 cases h;exact ⟨(by rfl),(by rfl)⟩
end Go.Proofs.YtmkgjnphianalaaGreat.Ax
