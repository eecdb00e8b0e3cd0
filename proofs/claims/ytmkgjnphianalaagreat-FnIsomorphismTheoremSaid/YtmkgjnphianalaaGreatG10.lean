/-
 What the functions compute, as functions on plain data, and that the program does compute it; written by program.
-/
import Derived.Test.YtmkgjnphianalaaGreatCode
import Derived.Test.YtmkgjnphianalaaGreatG2
import Derived.Test.YtmkgjnphianalaaGreatG5
import Derived.Test.YtmkgjnphianalaaGreatG8
namespace Go.Proofs.YtmkgjnphianalaaGreat.Ax
open Go
set_option maxRecDepth 100000
set_option maxHeartbeats 4000000
noncomputable def Eb (r4:Int) (_x6:Int) (_x5:SAlgebra):(Int×SOp×Sl1Cur)->Option ((Int×SOp×Sl1Cur) ⊕ (SOp×Sl1Cur)):=λ(x8,x7,x132')=>
 if x8>(0:Int) then
 (A9 (x132') (r4)).bind λ(r16,u17)=>
 ask ((x7.Table).length+([r16]).length<=LIM) <|
 ask (InI (x8-(1:Int))) <|
 some (.inl (x8-(1:Int),{ Arity:=x7.Arity,Table:=x7.Table++[r16] },u17))
 else
 some (.inr (x7,x132'))
def Ix (r4:Int) (x6:Int) (x5:SAlgebra):(Int×SOp×Sl1Cur)->St:=λs=>[(8,A.val (Af s.1)),(7,A.val ((rP true (Ay true)) s.2.1)),(6,A.val (Af (x6))),(5,A.val ((rP true (Ag true)) (x5))),(4,A.val (Af (r4))),(2,A.val ((rP true (Ag true)) ({ Size:=(0:Int),Ops:=Aw SOp }))),(0,A.ref 132 []),(132,A.val ((rP true (Al false)) s.2.2))]
def N6 (r4:Int) (x6:Int) (x5:SAlgebra):(SOp×Sl1Cur)->Tgt
 | s=>((Ex.exit 2),[7,6,5,4,2,0,132],[(7,A.val ((rP true (Ay true)) s.1)),(6,A.val (Af (x6))),(5,A.val ((rP true (Ag true)) (x5))),(4,A.val (Af (r4))),(2,A.val ((rP true (Ag true)) ({ Size:=(0:Int),Ops:=Aw SOp }))),(0,A.ref 132 []),(132,A.val ((rP true (Al false)) s.2))])
theorem Aag {r4:Int} {x6:Int} {x5:SAlgebra} (s:(Int×SOp×Sl1Cur)) (o:(Int×SOp×Sl1Cur) ⊕ (SOp×Sl1Cur)) (h:Eb r4 x6 x5 s=some o):vc Tryz.prog Od (Cd [8,7,6,5,4,2,0,132] (Ix r4 x6 x5) (N6 r4 x6 x5) o) (Ix r4 x6 x5 s):=by
 obtain ⟨x8,x7,x132'⟩:=s;unfold Eb at h;try dsimp only at h
 refine Br.od h (λp15 h=> ?_) (λp15 h=> ?_)
 ·refine Cells.lit rfl rfl<|LendP.io Af (rP true (Al false)) (by rfl) (λ_=>rfl) (λ_=>⟨rfl,rfl⟩) (λ_=>rfl) h (λr h=>Bd h) (λr16 u17 h=> ?_)
  refine BslQ.o Af [r16] (by exact λ_=>⟨rfl,rfl⟩) (by first | rfl | (simp only [Aa,V.fz,fzL,V.up,upL,Ab,Ac,Ad,slr,List.cons_append,List.nil_append];done) | simp [Aa,V.fz,fzL,V.up,upL,Ab,Ac,Ad,slr])<|NoOwn.o (λ_=>rfl)<|Kid.lit rfl rfl<|Kid.lit rfl rfl<|SetKids.lit rfl<|AppQ.o (m:=1) Af (by exact λ_=>⟨rfl,rfl⟩) (x7.Table) ([r16]) (by rfl) (by rfl) h λh=>SetKids.lit rfl<|Ask.o h λp18 h=> ?_
  cases h;exact ⟨rfl,rfl⟩
 cases h;exact ⟨rfl,rfl⟩
noncomputable def Ed (r4:Int):(Int×SAlgebra×Sl1Cur)->Option ((Int×SAlgebra×Sl1Cur) ⊕ (SAlgebra×Sl1Cur)):=λ(x6,x5,x132)=>
 if x6>(0:Int) then
 (Bv (x132) ([(0:Int),(1:Int),(2:Int),(2:Int),(3:Int)])).bind λ(r9,u10)=>
 ((if r4=(4:Int) then
 if r9=(3:Int) then
 some ({ Arity:=(2:Int),Table:=Aw Int })
 else
 some ({ Arity:=r9,Table:=Aw Int })
 else
 some ({ Arity:=r9,Table:=Aw Int }):Option SOp)).bind λq13_7=>
 (I8 (r4) (q13_7.Arity)).bind λr14=>
 (Ak (Eb r4 x6 x5) (r14,q13_7,u10)).bind λ(q19_7,q19_132)=>
 ask ((x5.Ops).length+([q19_7]).length<=LIM) <|
 ask (InI (x6-(1:Int))) <|
 some (.inl (x6-(1:Int),{ Size:=x5.Size,Ops:=x5.Ops++[q19_7] },q19_132))
 else
 some (.inr (x5,x132))
def Iv (r4:Int):(Int×SAlgebra×Sl1Cur)->St:=λs=>[(6,A.val (Af s.1)),(5,A.val ((rP true (Ag true)) s.2.1)),(4,A.val (Af (r4))),(2,A.val ((rP true (Ag true)) ({ Size:=(0:Int),Ops:=Aw SOp }))),(0,A.ref 132 []),(132,A.val ((rP true (Al false)) s.2.2))]
def N3 (r4:Int):(SAlgebra×Sl1Cur)->Tgt
 | s=>((Ex.exit 0),[5,4,2,0,132],[(5,A.val ((rP true (Ag true)) s.1)),(4,A.val (Af (r4))),(2,A.val ((rP true (Ag true)) ({ Size:=(0:Int),Ops:=Aw SOp }))),(0,A.ref 132 []),(132,A.val ((rP true (Al false)) s.2))])
theorem Z3 {r4:Int} (s:(Int×SAlgebra×Sl1Cur)) (o:(Int×SAlgebra×Sl1Cur) ⊕ (SAlgebra×Sl1Cur)) (h:Ed r4 s=some o):vc Tryz.prog Ob (Cd [6,5,4,2,0,132] (Iv r4) (N3 r4) o) (Iv r4 s):=by
 obtain ⟨x6,x5,x132⟩:=s;unfold Ed at h;try dsimp only at h
 refine Br.od h (λp8 h=> ?_) (λp8 h=> ?_)
 ·refine BslQ.o Af ([(0:Int),(1:Int),(2:Int),(2:Int),(3:Int)]) (by exact λ_=>⟨rfl,rfl⟩) (by first | rfl | (simp only [Aa,V.fz,fzL,V.up,upL,Ab,Ac,Ad,slr,List.cons_append,List.nil_append];done) | simp [Aa,V.fz,fzL,V.up,upL,Ab,Ac,Ad,slr])<|CallQ.io Af (rP true (Al false)) (by first | rfl | (simp only [Aa,Av,V.fz,fzL,Ab,Ac,slr];done) | simp [Aa,Av,V.fz,fzL,V.up,upL,Ab,Ac,Ad,slr]) rfl (λ_=>rfl) (λ_=>⟨rfl,rfl⟩) rfl h (λr h=>Cf h) (λr9 u10 h=> ?_)
  refine SetKids.lit rfl<|CutQ.o (λt:SOp=>match t with | s=>(Ex.normal,[7,6,5,4,2,0,132],[(7,A.val ((rP true (Ay true)) s)),(6,A.val (Af (x6))),(5,A.val ((rP true (Ag true)) (x5))),(4,A.val (Af (r4))),(2,A.val ((rP true (Ag true)) ({ Size:=(0:Int),Ops:=Aw SOp }))),(0,A.ref 132 []),(132,A.val ((rP true (Al false)) (u10)))])) h ?_ ?_
  ·intro t h;refine Br.oe h (λp11 h=> ?_) (λp11 h=> ?_)
   ·refine Br.yes<|Cells.lit rfl rfl<|Br.yes<|Br.yes<|Br.oe h (λp12 h=> ?_) (λp12 h=> ?_)
    ·refine SetKids.lit rfl ?_;cases h;exact ⟨rfl,rfl⟩
    cases h;exact ⟨rfl,rfl⟩
   refine Br.no<|Br.no<|Br.no<|Br.no ?_
   cases h;exact ⟨rfl,rfl⟩
  rintro q13_7 h;try dsimp only at h
  refine Cells.lit rfl rfl<|CallQ.o Af (by rfl) h (λr h=>Ait h) (λr14 h=> ?_)
  refine LoopQ.o [8,7,6,5,4,2,0,132] (Ix r4 x6 x5) (N6 r4 x6 x5) h (λs o h=>Aag s o h) (by rfl) (λ_=>rfl) ?_;rintro ⟨q19_7,q19_132⟩ h;try dsimp only at h
  refine Cells.lit rfl rfl<|Cells.lit rfl rfl<|BslQ.o (Ay true) [q19_7] (by exact λ_=>⟨rfl,rfl⟩) (by first | rfl | (simp only [Aa,V.fz,fzL,V.up,upL,Ab,Ac,Ad,slr,List.cons_append,List.nil_append];done) | simp [Aa,V.fz,fzL,V.up,upL,Ab,Ac,Ad,slr])<|NoOwn.own rfl<|Kid.lit rfl rfl<|Kid.lit rfl rfl<|SetKids.lit rfl<|AppQ.o (m:=2) (Ay true) (by exact λ_=>⟨rfl,rfl⟩) (x5.Ops) ([q19_7]) (by rfl) (by rfl) h λh=>SetKids.lit rfl<|Ask.o h λp20 h=> ?_
  cases h;exact ⟨rfl,rfl⟩
 cases h;exact ⟨rfl,rfl⟩
noncomputable def Ea (r4:Int):(SAlgebra×Sl1Cur)->Option ((SAlgebra×Sl1Cur) ⊕ (SAlgebra×Sl1Cur)):=λ(x5,x132)=>
 (A9 (x132) ((2:Int))).bind λ(r52,u53)=>
 ask (InI ((4:Int)+r52)) <|
 if (↑x5.Ops.length:Int)<(4:Int)+r52 then
 ask ((0:Int)<=r4/\r4<=(↑LIM:Int)) <|
 ask ((x5.Ops).length+(([{ Arity:=(1:Int),Table:=List.replicate r4.toNat (0:Int) }]:List SOp)).length<=LIM) <|
 some (.inl ({ Size:=x5.Size,Ops:=x5.Ops++[{ Arity:=(1:Int),Table:=List.replicate r4.toNat (0:Int) }] },u53))
 else
 some (.inr (x5,u53))
def Il (r4:Int):(SAlgebra×Sl1Cur)->St:=λs=>[(5,A.val ((rP true (Ag true)) s.1)),(4,A.val (Af (r4))),(2,A.val ((rP true (Ag true)) ({ Size:=(0:Int),Ops:=Aw SOp }))),(0,A.ref 132 []),(132,A.val ((rP true (Al false)) s.2))]
def N8 (_r4:Int):(SAlgebra×Sl1Cur)->Tgt
 | s=>((Ex.exit 5),[5,2,132],[(5,A.val ((rP true (Ag true)) s.1)),(2,A.val ((rP true (Ag true)) ({ Size:=(0:Int),Ops:=Aw SOp }))),(132,A.val ((rP true (Al false)) s.2))])
theorem Zb {r4:Int} (s:(SAlgebra×Sl1Cur)) (o:(SAlgebra×Sl1Cur) ⊕ (SAlgebra×Sl1Cur)) (h:Ea r4 s=some o):vc Tryz.prog Nz (Cd [5,4,2,0,132] (Il r4) (N8 r4) o) (Il r4 s):=by
 obtain ⟨x5,x132⟩:=s;unfold Ea at h;try dsimp only at h
 refine Cells.lit rfl rfl<|Kid.lit rfl rfl<|Len.map<|LendP.io Af (rP true (Al false)) (by rfl) (λ_=>rfl) (λ_=>⟨rfl,rfl⟩) (λ_=>rfl) h (λr h=>Bd h) (λr52 u53 h=> ?_)
 refine Ask.o h λp54 h=>Br.od h (λp55 h=> ?_) (λp55 h=> ?_)
 ·refine Cells.lit rfl rfl<|SameQ.mk ⟨rfl,?_⟩
  refine Cells.lit rfl rfl<|SameQ.mk ⟨rfl,?_⟩
  refine SameQ.mk ⟨rfl,?_⟩;refine Ask.o h λp56 h=>MkQ.o Af ((0:Int)) rfl<|SameQ.mk ⟨rfl,?_⟩
  refine Cells.lit rfl rfl<|SameQ.mk ⟨rfl,?_⟩
  refine SameQ.mk ⟨rfl,?_⟩;refine Cells.lit rfl rfl<|SameQ.mk ⟨rfl,?_⟩
  refine BslQ.o (Ay true) ([{ Arity:=(1:Int),Table:=List.replicate r4.toNat (0:Int) }]) (by exact λ_=>⟨rfl,rfl⟩) (by first | rfl | (simp only [Aa,V.fz,fzL,V.up,upL,Ab,Ac,Ad,slr,List.cons_append,List.nil_append];done) | simp [Aa,V.fz,fzL,V.up,upL,Ab,Ac,Ad,slr])<|SameQ.mk ⟨rfl,?_⟩
  refine Cells.lit rfl rfl<|SameQ.mk ⟨rfl,?_⟩
  refine NoOwn.own rfl<|Kid.lit rfl rfl<|Kid.lit rfl rfl<|SetKids.lit rfl<|AppQ.o (m:=2) (Ay true) (by exact λ_=>⟨rfl,rfl⟩) (x5.Ops) ([{ Arity:=(1:Int),Table:=List.replicate r4.toNat (0:Int) }]) (by rfl) (by rfl) h λh=>SetKids.lit rfl ?_
  cases h;exact ⟨rfl,rfl⟩
 cases h;exact ⟨rfl,rfl⟩
noncomputable def Fo (c0:Sl1Cur):Option (SAlgebra×Sl1Cur):=
 (Gr (c0) ((4:Int))).bind λ(r1,u2)=>
 if (r1)=true then
 (Bv (u2) ([(2:Int),(2:Int),(3:Int),(3:Int),(4:Int)])).bind λ(r4,u5)=>
 (Bv (u5) ([(1:Int),(1:Int),(2:Int)])).bind λ(r6,u7)=>
 (Ak (Ed r4) (r6,{ Size:=r4,Ops:=Aw SOp },u7)).bind λ(q21_5,q21_132)=>
 (A9 (q21_132) ((16:Int))).bind λ(r22,u23)=>
 if r22=(0:Int) then
 ask (InI (r4+(1:Int))) <|
 (Bv (u23) ([(0:Int),(9:Int),r4+(1:Int)])).bind λ(r26,u27)=>
 some ({ Size:=r26,Ops:=q21_5.Ops },u27)
 else
 if r22=(1:Int) then
 ask ((0:Int)<=(0:Int)/\(0:Int)<(↑q21_5.Ops.length:Int)) <|
 ask (((nth q21_5.Ops (Int.toNat (0:Int))).Table).length+([(0:Int)]).length<=LIM) <|
 some ({ Size:=q21_5.Size,Ops:=q21_5.Ops.set (Int.toNat (0:Int)) { Arity:=(nth q21_5.Ops (Int.toNat (0:Int))).Arity,Table:=(nth q21_5.Ops (Int.toNat (0:Int))).Table++[(0:Int)] } },u23)
 else
 if r22=(2:Int) then
 ask ((0:Int)<=(0:Int)/\(0:Int)<(↑q21_5.Ops.length:Int)) <|
 (A9 (u23) ((↑(nth q21_5.Ops (Int.toNat (0:Int))).Table.length:Int))).bind λ(r32,u33)=>
 (Bv (u33) ([(-1:Int),r4])).bind λ(r34,u35)=>
 ask ((0:Int)<=r32/\r32<(↑(nth q21_5.Ops (Int.toNat (0:Int))).Table.length:Int)) <|
 some ({ Size:=q21_5.Size,Ops:=q21_5.Ops.set (Int.toNat (0:Int)) { Arity:=(nth q21_5.Ops (Int.toNat (0:Int))).Arity,Table:=(nth q21_5.Ops (Int.toNat (0:Int))).Table.set r32.toNat r34 } },u35)
 else
 if r22=(3:Int) then
 (Bv (u23) ([(-1:Int),(4:Int)])).bind λ(r48,u49)=>
 ask ((0:Int)<=(0:Int)/\(0:Int)<(↑q21_5.Ops.length:Int)) <|
 some ({ Size:=q21_5.Size,Ops:=q21_5.Ops.set (Int.toNat (0:Int)) { Arity:=r48,Table:=(nth q21_5.Ops (Int.toNat (0:Int))).Table } },u49)
 else
 if r22=(4:Int) then
 (Ak (Ea r4) (q21_5,u23)).bind λ(q57_5,q57_132)=>
 some (q57_5,q57_132)
 else
 some (q21_5,u23)
 else
 (A9 (u2) ((17:Int))).bind λ(r58,u59)=>
 (K0 (r58)).bind λr60=>
 some (r60,u59)
theorem Aeg {c0:Sl1Cur} {v:(SAlgebra×Sl1Cur)} (h:Fo c0=some v):J7 Tryz.prog Kt [(rP true (Al false)) c0] ((Ag true) v.1) 0 ((rP true (Al false)) v.2):=by
 refine Ij Aef (Nat.le_of_ble_eq_true rfl) ?_;unfold Fo at h;refine CallQ.io V.bool (rP true (Al false)) (by rfl) rfl (λ_=>rfl) (λ_=>⟨rfl,rfl⟩) rfl h (λr h=>Yq h) (λr1 u2 h=> ?_);refine Br.flip ?_;refine Br.ob h (λp3 h=> ?_) (λp3 h=> ?_)
 ·refine BslQ.o Af ([(2:Int),(2:Int),(3:Int),(3:Int),(4:Int)]) (by exact λ_=>⟨rfl,rfl⟩) (by first | rfl | (simp only [Aa,V.fz,fzL,V.up,upL,Ab,Ac,Ad,slr,List.cons_append,List.nil_append];done) | simp [Aa,V.fz,fzL,V.up,upL,Ab,Ac,Ad,slr]) ?_;refine CallQ.io Af (rP true (Al false)) (by first | rfl | (simp only [Aa,Av,V.fz,fzL,Ab,Ac,slr];done) | simp [Aa,Av,V.fz,fzL,V.up,upL,Ab,Ac,Ad,slr]) rfl (λ_=>rfl) (λ_=>⟨rfl,rfl⟩) rfl h (λr h=>Cf h) (λr4 u5 h=> ?_);refine SetKids.lit rfl ?_;refine BslQ.o Af ([(1:Int),(1:Int),(2:Int)]) (by exact λ_=>⟨rfl,rfl⟩) (by first | rfl | (simp only [Aa,V.fz,fzL,V.up,upL,Ab,Ac,Ad,slr,List.cons_append,List.nil_append];done) | simp [Aa,V.fz,fzL,V.up,upL,Ab,Ac,Ad,slr]) ?_;refine CallQ.io Af (rP true (Al false)) (by first | rfl | (simp only [Aa,Av,V.fz,fzL,Ab,Ac,slr];done) | simp [Aa,Av,V.fz,fzL,V.up,upL,Ab,Ac,Ad,slr]) rfl (λ_=>rfl) (λ_=>⟨rfl,rfl⟩) rfl h (λr h=>Cf h) (λr6 u7 h=> ?_);refine LoopQ.o [6,5,4,2,0,132] (Iv r4) (N3 r4) h (λs o h=>Z3 s o h) (by rfl) (λ_=>rfl) ?_;rintro ⟨q21_5,q21_132⟩ h;try dsimp only at h
  refine CallQ.io Af (rP true (Al false)) (by rfl) rfl (λ_=>rfl) (λ_=>⟨rfl,rfl⟩) rfl h (λr h=>Bd h) (λr22 u23 h=> ?_);refine Br.oe h (λp24 h=> ?_) (λp24 h=> ?_)
  ·refine Ask.o h λp25 h=> ?_
   refine BslQ.o Af ([(0:Int),(9:Int),r4+(1:Int)]) (by exact λ_=>⟨rfl,rfl⟩) (by first | rfl | (simp only [Aa,V.fz,fzL,V.up,upL,Ab,Ac,Ad,slr,List.cons_append,List.nil_append];done) | simp [Aa,V.fz,fzL,V.up,upL,Ab,Ac,Ad,slr]) ?_;refine CallQ.io Af (rP true (Al false)) (by first | rfl | (simp only [Aa,Av,V.fz,fzL,Ab,Ac,slr];done) | simp [Aa,Av,V.fz,fzL,V.up,upL,Ab,Ac,Ad,slr]) rfl (λ_=>rfl) (λ_=>⟨rfl,rfl⟩) rfl h (λr h=>Cf h) (λr26 u27 h=> ?_);refine SetKids.lit rfl ?_;refine Cells.lit rfl rfl ?_;refine SetKids.lit rfl ?_;cases h;exact ⟨(by rfl),(by rfl)⟩
  refine Br.oe h (λp28 h=> ?_) (λp28 h=> ?_)
  ·refine Cells.lit rfl rfl ?_;refine Cells.lit rfl rfl ?_;refine Kid.lit rfl rfl ?_;refine Len.map ?_;refine Ask.o h λp29 h=> ?_
   refine Kid.lit rfl rfl ?_;refine Cells.wide (by exact λ_=>⟨rfl,rfl⟩) (by first | omega | (simp [Ap] at * <;> omega)) (by decide) ?_;refine SameQ.mk ⟨rfl,?_⟩;refine Cells.lit rfl rfl ?_;refine SameQ.mk ⟨rfl,?_⟩;refine SameQ.mk ⟨rfl,?_⟩;refine Cells.lit rfl rfl ?_;refine SameQ.mk ⟨rfl,?_⟩;refine Kid.lit rfl rfl ?_;refine Len.map ?_;refine Ask.mk p29 ?_;refine SameQ.mk ⟨rfl,?_⟩;refine SameQ.mk ⟨rfl,?_⟩;refine Kid.lit rfl rfl ?_;refine Cells.wide (by exact λ_=>⟨rfl,rfl⟩) (by first | omega | (simp [Ap] at * <;> omega)) (by decide) ?_;refine SameQ.mk ⟨rfl,?_⟩;refine BslQ.o Af ([(0:Int)]) (by exact λ_=>⟨rfl,rfl⟩) (by first | rfl | (simp only [Aa,V.fz,fzL,V.up,upL,Ab,Ac,Ad,slr,List.cons_append,List.nil_append];done) | simp [Aa,V.fz,fzL,V.up,upL,Ab,Ac,Ad,slr]) ?_;refine SameQ.mk ⟨rfl,?_⟩;refine Cells.lit rfl rfl ?_;refine SameQ.mk ⟨rfl,?_⟩;refine SameQ.mk ⟨rfl,?_⟩;refine Cells.lit rfl rfl ?_;refine SameQ.mk ⟨rfl,?_⟩;refine Kid.lit rfl rfl ?_;refine Len.map ?_;refine Ask.mk p29 ?_;refine SameQ.mk ⟨rfl,?_⟩;refine SameQ.mk ⟨rfl,?_⟩;refine Kid.lit rfl rfl ?_;refine Cells.wide (by exact λ_=>⟨rfl,rfl⟩) (by first | omega | (simp [Ap] at * <;> omega)) (by decide) ?_;refine SameQ.mk ⟨rfl,?_⟩;refine NoOwn.o (λ_=>rfl) ?_;refine Kid.lit rfl rfl ?_;refine Kid.wide (by exact λ_=>⟨rfl,rfl⟩) (by first | omega | (simp [Ap] at * <;> omega)) (by rfl) ?_;refine Kid.lit rfl rfl ?_;refine Kid.wide (by exact λ_=>⟨rfl,rfl⟩) (by first | omega | (simp [Ap] at * <;> omega)) (by rfl) ?_;refine SetKids.mkholeW (by exact λ_=>⟨rfl,rfl⟩) _ (by first | omega | (simp [Ap] at * <;> omega)) (by rfl) (by decide) ?_;refine SetKids.lit rfl ?_;refine AppQ.o (m:=1) Af (by exact λ_=>⟨rfl,rfl⟩) ((nth q21_5.Ops (Int.toNat (0:Int))).Table) ([(0:Int)]) (by rfl) (by rfl) h λh=> ?_
   refine SameQ.mk ⟨rfl,?_⟩;refine Cells.lit rfl rfl ?_;refine SameQ.mk ⟨rfl,?_⟩;refine Kid.lit rfl rfl ?_;refine Len.holeW ?_;refine Ask.mk p29 ?_;refine Kid.lit rfl rfl ?_;refine SetKids.fillW (by exact λ_=>⟨rfl,rfl⟩) ({ Arity:=(nth q21_5.Ops (Int.toNat (0:Int))).Arity,Table:=(nth q21_5.Ops (Int.toNat (0:Int))).Table++[(0:Int)] }) (by first | omega | (simp [Ap] at * <;> omega)) (by rfl) (by rfl) (by decide) ?_;refine Kid.lit rfl rfl ?_;refine SetKids.lit rfl ?_;refine Cells.lit rfl rfl ?_;refine SetKids.lit rfl ?_;cases h;exact ⟨(by rfl),(by rfl)⟩
  refine Br.oe h (λp30 h=> ?_) (λp30 h=> ?_)
  ·refine Cells.lit rfl rfl ?_;refine Kid.lit rfl rfl ?_;refine Len.map ?_;refine Ask.o h λp31 h=> ?_
   refine Kid.lit rfl rfl ?_;refine Cells.wide (by exact λ_=>⟨rfl,rfl⟩) (by first | omega | (simp [Ap] at * <;> omega)) (by decide) ?_;refine Cells.lit rfl rfl ?_;refine Kid.lit rfl rfl ?_;refine Len.map ?_;refine Ask.mk p31 ?_;refine Kid.lit rfl rfl ?_;refine Cells.wide (by exact λ_=>⟨rfl,rfl⟩) (by first | omega | (simp [Ap] at * <;> omega)) (by decide) ?_;refine Two.mk ⟨?_,?_⟩
   ·refine SameQ.mk ⟨rfl,?_⟩;refine Cells.lit rfl rfl ?_;refine SameQ.mk ⟨rfl,?_⟩;refine Kid.lit rfl rfl ?_;refine Len.map ?_;refine Ask.mk p31 ?_;refine SameQ.mk ⟨rfl,?_⟩;refine SameQ.mk ⟨rfl,?_⟩;refine Kid.lit rfl rfl ?_;refine Cells.wide (by exact λ_=>⟨rfl,rfl⟩) (by first | omega | (simp [Ap] at * <;> omega)) (by decide) ?_;refine SameQ.mk ⟨rfl,?_⟩;refine SameQ.mk ⟨rfl,?_⟩;refine SameQ.mk ⟨rfl,?_⟩;refine Cells.lit rfl rfl ?_;refine SameQ.mk ⟨rfl,?_⟩;refine Kid.lit rfl rfl ?_;refine Len.map ?_;refine Ask.mk p31 ?_;refine SameQ.mk ⟨rfl,?_⟩;refine SameQ.mk ⟨rfl,?_⟩;refine Kid.lit rfl rfl ?_;refine Cells.wide (by exact λ_=>⟨rfl,rfl⟩) (by first | omega | (simp [Ap] at * <;> omega)) (by decide) ?_;refine SameQ.mk ⟨rfl,?_⟩;refine SameQ.mk ⟨rfl,?_⟩;refine SameQ.mk ⟨rfl,?_⟩;refine Kid.lit rfl rfl ?_;refine Kid.wide (by exact λ_=>⟨rfl,rfl⟩) (by first | omega | (simp [Ap] at * <;> omega)) (by rfl) ?_;refine Len.map ?_;refine Two.mk ⟨?_,?_⟩
    ·refine SameQ.mk ⟨rfl,?_⟩;refine Cells.lit rfl rfl ?_;refine SameQ.mk ⟨rfl,?_⟩;refine Kid.lit rfl rfl ?_;refine Len.map ?_;refine Ask.mk p31 ?_;refine SameQ.mk ⟨rfl,?_⟩;refine SameQ.mk ⟨rfl,?_⟩;refine Kid.lit rfl rfl ?_;refine Cells.wide (by exact λ_=>⟨rfl,rfl⟩) (by first | omega | (simp [Ap] at * <;> omega)) (by decide) ?_;refine SameQ.mk ⟨rfl,?_⟩;refine SameQ.mk ⟨rfl,?_⟩;refine SameQ.mk ⟨rfl,?_⟩;refine SameQ.mk ⟨rfl,?_⟩;refine CallQ.io Af (rP true (Al false)) (by rfl) rfl (λ_=>rfl) (λ_=>⟨rfl,rfl⟩) rfl h (λr h=>Bd h) (λr32 u33 h=> ?_);refine SameQ.mk ⟨rfl,?_⟩;refine Cells.lit rfl rfl ?_;refine SameQ.mk ⟨rfl,?_⟩;refine Kid.lit rfl rfl ?_;refine Len.map ?_;refine Ask.mk p31 ?_;refine SameQ.mk ⟨rfl,?_⟩;refine SameQ.mk ⟨rfl,?_⟩;refine Kid.lit rfl rfl ?_;refine Cells.wide (by exact λ_=>⟨rfl,rfl⟩) (by first | omega | (simp [Ap] at * <;> omega)) (by decide) ?_;refine SameQ.mk ⟨rfl,?_⟩;refine SameQ.mk ⟨rfl,?_⟩;refine SameQ.mk ⟨rfl,?_⟩;refine BslQ.o Af ([(-1:Int),r4]) (by exact λ_=>⟨rfl,rfl⟩) (by first | rfl | (simp only [Aa,V.fz,fzL,V.up,upL,Ab,Ac,Ad,slr,List.cons_append,List.nil_append];done) | simp [Aa,V.fz,fzL,V.up,upL,Ab,Ac,Ad,slr]) ?_;refine SameQ.mk ⟨rfl,?_⟩;refine Cells.lit rfl rfl ?_;refine SameQ.mk ⟨rfl,?_⟩;refine Kid.lit rfl rfl ?_;refine Len.map ?_;refine Ask.mk p31 ?_;refine SameQ.mk ⟨rfl,?_⟩;refine SameQ.mk ⟨rfl,?_⟩;refine Kid.lit rfl rfl ?_;refine Cells.wide (by exact λ_=>⟨rfl,rfl⟩) (by first | omega | (simp [Ap] at * <;> omega)) (by decide) ?_;refine SameQ.mk ⟨rfl,?_⟩;refine SameQ.mk ⟨rfl,?_⟩;refine CallQ.io Af (rP true (Al false)) (by first | rfl | (simp only [Aa,Av,V.fz,fzL,Ab,Ac,slr];done) | simp [Aa,Av,V.fz,fzL,V.up,upL,Ab,Ac,Ad,slr]) rfl (λ_=>rfl) (λ_=>⟨rfl,rfl⟩) rfl h (λr h=>Cf h) (λr34 u35 h=> ?_);refine SameQ.mk ⟨rfl,?_⟩;refine Cells.lit rfl rfl ?_;refine SameQ.mk ⟨rfl,?_⟩;refine Kid.lit rfl rfl ?_;refine Len.map ?_;refine Ask.mk p31 ?_;refine SameQ.mk ⟨rfl,?_⟩;refine SameQ.mk ⟨rfl,?_⟩;refine Kid.lit rfl rfl ?_;refine Cells.wide (by exact λ_=>⟨rfl,rfl⟩) (by first | omega | (simp [Ap] at * <;> omega)) (by decide) ?_;refine SameQ.mk ⟨rfl,?_⟩;refine Kid.lit rfl rfl ?_;refine Kid.wide (by exact λ_=>⟨rfl,rfl⟩) (by first | omega | (simp [Ap] at * <;> omega)) (by rfl) ?_;refine Len.map ?_;refine Ask.o h λp36 h=> ?_
     refine Kid.lit rfl rfl ?_;refine Kid.wide (by exact λ_=>⟨rfl,rfl⟩) (by first | omega | (simp [Ap] at * <;> omega)) (by rfl) ?_;refine SetKids.one (λ_=>⟨rfl,rfl⟩) (r34) (by rfl) (by first | omega | (simp [Ap] at * <;> omega)) ?_;refine Kid.lit rfl rfl ?_;refine Kid.wide (by exact λ_=>⟨rfl,rfl⟩) (by first | omega | (simp [Ap] at * <;> omega)) (by rfl) ?_;refine SetKids.wide (by exact λ_=>⟨rfl,rfl⟩) ({ Arity:=(nth q21_5.Ops (Int.toNat (0:Int))).Arity,Table:=(nth q21_5.Ops (Int.toNat (0:Int))).Table.set r32.toNat r34 }) (by first | omega | (simp [Ap] at * <;> omega)) (by rfl) (by decide) ?_;refine SetKids.lit rfl ?_;refine Cells.lit rfl rfl ?_;refine SetKids.lit rfl ?_;cases h;exact ⟨(by rfl),(by rfl)⟩
    refine SameQ.mk ⟨rfl,?_⟩;refine Cells.lit rfl rfl ?_;refine SameQ.mk ⟨rfl,?_⟩;refine Kid.lit rfl rfl ?_;refine Len.map ?_;refine Ask.mk p31 ?_;refine SameQ.mk ⟨rfl,?_⟩;refine SameQ.mk ⟨rfl,?_⟩;refine Kid.lit rfl rfl ?_;refine Cells.wide (by exact λ_=>⟨rfl,rfl⟩) (by first | omega | (simp [Ap] at * <;> omega)) (by decide) ?_;refine SameQ.mk ⟨rfl,?_⟩;refine SameQ.mk ⟨rfl,?_⟩;refine SameQ.mk ⟨rfl,?_⟩;refine SameQ.mk ⟨rfl,?_⟩;refine BslQ.o Af ([(-1:Int),r4]) (by exact λ_=>⟨rfl,rfl⟩) (by first | rfl | (simp only [Aa,V.fz,fzL,V.up,upL,Ab,Ac,Ad,slr,List.cons_append,List.nil_append];done) | simp [Aa,V.fz,fzL,V.up,upL,Ab,Ac,Ad,slr]) ?_;refine SameQ.mk ⟨rfl,?_⟩;refine Cells.lit rfl rfl ?_;refine SameQ.mk ⟨rfl,?_⟩;refine Kid.lit rfl rfl ?_;refine Len.map ?_;refine Ask.mk p31 ?_;refine SameQ.mk ⟨rfl,?_⟩;refine SameQ.mk ⟨rfl,?_⟩;refine Kid.lit rfl rfl ?_;refine Cells.wide (by exact λ_=>⟨rfl,rfl⟩) (by first | omega | (simp [Ap] at * <;> omega)) (by decide) ?_;refine SameQ.mk ⟨rfl,?_⟩;refine SameQ.mk ⟨rfl,?_⟩;refine SameQ.mk ⟨rfl,?_⟩;refine CallQ.io Af (rP true (Al false)) (by rfl) rfl (λ_=>rfl) (λ_=>⟨rfl,rfl⟩) rfl h (λr h=>Bd h) (λr37 u38 h=> ?_);refine SameQ.mk ⟨rfl,?_⟩;refine Cells.lit rfl rfl ?_;refine SameQ.mk ⟨rfl,?_⟩;refine Kid.lit rfl rfl ?_;refine Len.map ?_;refine Ask.mk p31 ?_;refine SameQ.mk ⟨rfl,?_⟩;refine SameQ.mk ⟨rfl,?_⟩;refine Kid.lit rfl rfl ?_;refine Cells.wide (by exact λ_=>⟨rfl,rfl⟩) (by first | omega | (simp [Ap] at * <;> omega)) (by decide) ?_;refine SameQ.mk ⟨rfl,?_⟩;refine SameQ.mk ⟨rfl,?_⟩;refine CallQ.io Af (rP true (Al false)) (by first | rfl | (simp only [Aa,Av,V.fz,fzL,Ab,Ac,slr];done) | simp [Aa,Av,V.fz,fzL,V.up,upL,Ab,Ac,Ad,slr]) rfl (λ_=>rfl) (λ_=>⟨rfl,rfl⟩) rfl h (λr h=>Cf h) (λr39 u40 h=> ?_);refine SameQ.mk ⟨rfl,?_⟩;refine Cells.lit rfl rfl ?_;refine SameQ.mk ⟨rfl,?_⟩;refine Kid.lit rfl rfl ?_;refine Len.map ?_;refine Ask.mk p31 ?_;refine SameQ.mk ⟨rfl,?_⟩;refine SameQ.mk ⟨rfl,?_⟩;refine Kid.lit rfl rfl ?_;refine Cells.wide (by exact λ_=>⟨rfl,rfl⟩) (by first | omega | (simp [Ap] at * <;> omega)) (by decide) ?_;refine SameQ.mk ⟨rfl,?_⟩;refine Kid.lit rfl rfl ?_;refine Kid.wide (by exact λ_=>⟨rfl,rfl⟩) (by first | omega | (simp [Ap] at * <;> omega)) (by rfl) ?_;refine Len.map ?_;refine Ask.o h λp41 h=> ?_
    refine Kid.lit rfl rfl ?_;refine Kid.wide (by exact λ_=>⟨rfl,rfl⟩) (by first | omega | (simp [Ap] at * <;> omega)) (by rfl) ?_;refine SetKids.one (λ_=>⟨rfl,rfl⟩) (r39) (by rfl) (by first | omega | (simp [Ap] at * <;> omega)) ?_;refine Kid.lit rfl rfl ?_;refine Kid.wide (by exact λ_=>⟨rfl,rfl⟩) (by first | omega | (simp [Ap] at * <;> omega)) (by rfl) ?_;refine SetKids.wide (by exact λ_=>⟨rfl,rfl⟩) ({ Arity:=(nth q21_5.Ops (Int.toNat (0:Int))).Arity,Table:=(nth q21_5.Ops (Int.toNat (0:Int))).Table.set r37.toNat r39 }) (by first | omega | (simp [Ap] at * <;> omega)) (by rfl) (by decide) ?_;refine SetKids.lit rfl ?_;refine Cells.lit rfl rfl ?_;refine SetKids.lit rfl ?_;cases h;exact ⟨(by rfl),(by rfl)⟩
   refine SameQ.mk ⟨rfl,?_⟩;refine Cells.lit rfl rfl ?_;refine SameQ.mk ⟨rfl,?_⟩;refine Kid.lit rfl rfl ?_;refine Len.map ?_;refine Ask.mk p31 ?_;refine SameQ.mk ⟨rfl,?_⟩;refine SameQ.mk ⟨rfl,?_⟩;refine Kid.lit rfl rfl ?_;refine Cells.wide (by exact λ_=>⟨rfl,rfl⟩) (by first | omega | (simp [Ap] at * <;> omega)) (by decide) ?_;refine SameQ.mk ⟨rfl,?_⟩;refine SameQ.mk ⟨rfl,?_⟩;refine SameQ.mk ⟨rfl,?_⟩;refine Cells.lit rfl rfl ?_;refine SameQ.mk ⟨rfl,?_⟩;refine Kid.lit rfl rfl ?_;refine Len.map ?_;refine Ask.mk p31 ?_;refine SameQ.mk ⟨rfl,?_⟩;refine SameQ.mk ⟨rfl,?_⟩;refine Kid.lit rfl rfl ?_;refine Cells.wide (by exact λ_=>⟨rfl,rfl⟩) (by first | omega | (simp [Ap] at * <;> omega)) (by decide) ?_;refine SameQ.mk ⟨rfl,?_⟩;refine SameQ.mk ⟨rfl,?_⟩;refine SameQ.mk ⟨rfl,?_⟩;refine BslQ.o Af ([(-1:Int),r4]) (by exact λ_=>⟨rfl,rfl⟩) (by first | rfl | (simp only [Aa,V.fz,fzL,V.up,upL,Ab,Ac,Ad,slr,List.cons_append,List.nil_append];done) | simp [Aa,V.fz,fzL,V.up,upL,Ab,Ac,Ad,slr]) ?_;refine SameQ.mk ⟨rfl,?_⟩;refine Cells.lit rfl rfl ?_;refine SameQ.mk ⟨rfl,?_⟩;refine Kid.lit rfl rfl ?_;refine Len.map ?_;refine Ask.mk p31 ?_;refine SameQ.mk ⟨rfl,?_⟩;refine SameQ.mk ⟨rfl,?_⟩;refine Kid.lit rfl rfl ?_;refine Cells.wide (by exact λ_=>⟨rfl,rfl⟩) (by first | omega | (simp [Ap] at * <;> omega)) (by decide) ?_;refine SameQ.mk ⟨rfl,?_⟩;refine SameQ.mk ⟨rfl,?_⟩;refine SameQ.mk ⟨rfl,?_⟩;refine Cells.lit rfl rfl ?_;refine SameQ.mk ⟨rfl,?_⟩;refine Kid.lit rfl rfl ?_;refine Len.map ?_;refine Ask.mk p31 ?_;refine SameQ.mk ⟨rfl,?_⟩;refine SameQ.mk ⟨rfl,?_⟩;refine Kid.lit rfl rfl ?_;refine Cells.wide (by exact λ_=>⟨rfl,rfl⟩) (by first | omega | (simp [Ap] at * <;> omega)) (by decide) ?_;refine SameQ.mk ⟨rfl,?_⟩;refine SameQ.mk ⟨rfl,?_⟩;refine Kid.lit rfl rfl ?_;refine Kid.wide (by exact λ_=>⟨rfl,rfl⟩) (by first | omega | (simp [Ap] at * <;> omega)) (by rfl) ?_;refine Len.map ?_;refine SameQ.mk ⟨rfl,?_⟩;refine Cells.lit rfl rfl ?_;refine SameQ.mk ⟨rfl,?_⟩;refine Kid.lit rfl rfl ?_;refine Len.map ?_;refine Ask.mk p31 ?_;refine SameQ.mk ⟨rfl,?_⟩;refine SameQ.mk ⟨rfl,?_⟩;refine Kid.lit rfl rfl ?_;refine Cells.wide (by exact λ_=>⟨rfl,rfl⟩) (by first | omega | (simp [Ap] at * <;> omega)) (by decide) ?_;refine SameQ.mk ⟨rfl,?_⟩;refine SameQ.mk ⟨rfl,?_⟩;refine SameQ.mk ⟨rfl,?_⟩;refine CallQ.io Af (rP true (Al false)) (by rfl) rfl (λ_=>rfl) (λ_=>⟨rfl,rfl⟩) rfl h (λr h=>Bd h) (λr42 u43 h=> ?_);refine SameQ.mk ⟨rfl,?_⟩;refine Cells.lit rfl rfl ?_;refine SameQ.mk ⟨rfl,?_⟩;refine Kid.lit rfl rfl ?_;refine Len.map ?_;refine Ask.mk p31 ?_;refine SameQ.mk ⟨rfl,?_⟩;refine SameQ.mk ⟨rfl,?_⟩;refine Kid.lit rfl rfl ?_;refine Cells.wide (by exact λ_=>⟨rfl,rfl⟩) (by first | omega | (simp [Ap] at * <;> omega)) (by decide) ?_;refine SameQ.mk ⟨rfl,?_⟩;refine SameQ.mk ⟨rfl,?_⟩;refine CallQ.io Af (rP true (Al false)) (by first | rfl | (simp only [Aa,Av,V.fz,fzL,Ab,Ac,slr];done) | simp [Aa,Av,V.fz,fzL,V.up,upL,Ab,Ac,Ad,slr]) rfl (λ_=>rfl) (λ_=>⟨rfl,rfl⟩) rfl h (λr h=>Cf h) (λr44 u45 h=> ?_);refine SameQ.mk ⟨rfl,?_⟩;refine Cells.lit rfl rfl ?_;refine SameQ.mk ⟨rfl,?_⟩;refine Kid.lit rfl rfl ?_;refine Len.map ?_;refine Ask.mk p31 ?_;refine SameQ.mk ⟨rfl,?_⟩;refine SameQ.mk ⟨rfl,?_⟩;refine Kid.lit rfl rfl ?_;refine Cells.wide (by exact λ_=>⟨rfl,rfl⟩) (by first | omega | (simp [Ap] at * <;> omega)) (by decide) ?_;refine SameQ.mk ⟨rfl,?_⟩;refine Kid.lit rfl rfl ?_;refine Kid.wide (by exact λ_=>⟨rfl,rfl⟩) (by first | omega | (simp [Ap] at * <;> omega)) (by rfl) ?_;refine Len.map ?_;refine Ask.o h λp46 h=> ?_
   refine Kid.lit rfl rfl ?_;refine Kid.wide (by exact λ_=>⟨rfl,rfl⟩) (by first | omega | (simp [Ap] at * <;> omega)) (by rfl) ?_;refine SetKids.one (λ_=>⟨rfl,rfl⟩) (r44) (by rfl) (by first | omega | (simp [Ap] at * <;> omega)) ?_;refine Kid.lit rfl rfl ?_;refine Kid.wide (by exact λ_=>⟨rfl,rfl⟩) (by first | omega | (simp [Ap] at * <;> omega)) (by rfl) ?_;refine SetKids.wide (by exact λ_=>⟨rfl,rfl⟩) ({ Arity:=(nth q21_5.Ops (Int.toNat (0:Int))).Arity,Table:=(nth q21_5.Ops (Int.toNat (0:Int))).Table.set r42.toNat r44 }) (by first | omega | (simp [Ap] at * <;> omega)) (by rfl) (by decide) ?_;refine SetKids.lit rfl ?_;refine Cells.lit rfl rfl ?_;refine SetKids.lit rfl ?_;cases h;exact ⟨(by rfl),(by rfl)⟩
  refine Br.oe h (λp47 h=> ?_) (λp47 h=> ?_)
  ·refine Cells.lit rfl rfl ?_;refine SameQ.mk ⟨rfl,?_⟩;refine Cells.lit rfl rfl ?_;refine SameQ.mk ⟨rfl,?_⟩;refine SameQ.mk ⟨rfl,?_⟩;refine BslQ.o Af ([(-1:Int),(4:Int)]) (by exact λ_=>⟨rfl,rfl⟩) (by first | rfl | (simp only [Aa,V.fz,fzL,V.up,upL,Ab,Ac,Ad,slr,List.cons_append,List.nil_append];done) | simp [Aa,V.fz,fzL,V.up,upL,Ab,Ac,Ad,slr]) ?_;refine SameQ.mk ⟨rfl,?_⟩;refine Cells.lit rfl rfl ?_;refine SameQ.mk ⟨rfl,?_⟩;refine SameQ.mk ⟨rfl,?_⟩;refine CallQ.io Af (rP true (Al false)) (by first | rfl | (simp only [Aa,Av,V.fz,fzL,Ab,Ac,slr];done) | simp [Aa,Av,V.fz,fzL,V.up,upL,Ab,Ac,Ad,slr]) rfl (λ_=>rfl) (λ_=>⟨rfl,rfl⟩) rfl h (λr h=>Cf h) (λr48 u49 h=> ?_);refine SameQ.mk ⟨rfl,?_⟩;refine Cells.lit rfl rfl ?_;refine SameQ.mk ⟨rfl,?_⟩;refine Kid.lit rfl rfl ?_;refine Len.map ?_;refine Ask.o h λp50 h=> ?_
   refine Kid.lit rfl rfl ?_;refine SetKids.wide (by exact λ_=>⟨rfl,rfl⟩) ({ Arity:=r48,Table:=(nth q21_5.Ops (Int.toNat (0:Int))).Table }) (by first | omega | (simp [Ap] at * <;> omega)) (by rfl) (by decide) ?_;refine Kid.lit rfl rfl ?_;refine SetKids.lit rfl ?_;refine Cells.lit rfl rfl ?_;refine SetKids.lit rfl ?_;cases h;exact ⟨(by rfl),(by rfl)⟩
  refine Br.oe h (λp51 h=> ?_) (λp51 h=> ?_)
  ·refine LoopQ.o [5,4,2,0,132] (Il r4) (N8 r4) h (λs o h=>Zb s o h) (by rfl) (λ_=>rfl) ?_;rintro ⟨q57_5,q57_132⟩ h;try dsimp only at h
   refine Cells.lit rfl rfl ?_;refine SetKids.lit rfl ?_;cases h;exact ⟨(by rfl),(by rfl)⟩
  refine Cells.lit rfl rfl ?_;refine SetKids.lit rfl ?_;cases h;exact ⟨(by rfl),(by rfl)⟩
 refine CallQ.io Af (rP true (Al false)) (by rfl) rfl (λ_=>rfl) (λ_=>⟨rfl,rfl⟩) rfl h (λr h=>Bd h) (λr58 u59 h=> ?_);refine CallQ.o (Ag true) (by rfl) h (λr h=>Aro h) (λr60 h=> ?_);refine SetKids.lit rfl ?_;refine Cells.lit rfl rfl ?_;refine SetKids.lit rfl ?_;cases h;exact ⟨(by rfl),(by rfl)⟩
end Go.Proofs.YtmkgjnphianalaaGreat.Ax
