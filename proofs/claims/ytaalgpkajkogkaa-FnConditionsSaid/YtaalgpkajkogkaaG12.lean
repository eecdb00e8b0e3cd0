/-
 What the functions compute, as functions on plain data, and that the program does compute it; written by program.
-/
import Derived.Test.YtaalgpkajkogkaaCode
import Derived.Test.YtaalgpkajkogkaaG1
import Derived.Test.YtaalgpkajkogkaaG5
import Derived.Test.YtaalgpkajkogkaaG6
import Derived.Test.YtaalgpkajkogkaaG7
import Derived.Test.YtaalgpkajkogkaaG8
namespace Go.Proofs.Ytaalgpkajkogkaa.Ax
open Go
set_option maxRecDepth 100000
set_option maxHeartbeats 4000000
noncomputable def E4 (r4:Int) (_x6:Int) (_x5:SAlgebra):(Int×SOp×Sl1Cur)->Option ((Int×SOp×Sl1Cur) ⊕ (SOp×Sl1Cur)):=λ(x8,x7,x132')=>
 if x8>(0:Int) then
 (As (x132') (r4)).bind λ(r16,u17)=>
 ask ((x7.Table).length+([r16]).length<=LIM) <|
 ask (InI (x8-(1:Int))) <|
 some (.inl (x8-(1:Int),{ Arity:=x7.Arity,Table:=x7.Table++[r16] },u17))
 else
 some (.inr (x7,x132'))
def I4 (r4:Int) (x6:Int) (x5:SAlgebra):(Int×SOp×Sl1Cur)->St:=λs=>[(8,A.val (Ae s.1)),(7,A.val (rP true (Bd true) s.2.1)),(6,A.val (Ae x6)),(5,A.val (rP true (Aj true) x5)),(4,A.val (Ae r4)),(2,A.val ((rP true (Aj true)) ({ Size:=(0:Int),Ops:=Av SOp }))),(0,A.ref 132 []),(132,A.val (rP true (Al false) s.2.2))]
def Ou (r4:Int) (x6:Int) (x5:SAlgebra):(SOp×Sl1Cur)->Tgt
 | s=>((Ex.exit 2),[7,6,5,4,2,0,132],[(7,A.val (rP true (Bd true) s.1)),(6,A.val (Ae x6)),(5,A.val (rP true (Aj true) x5)),(4,A.val (Ae r4)),(2,A.val ((rP true (Aj true)) ({ Size:=(0:Int),Ops:=Av SOp }))),(0,A.ref 132 []),(132,A.val (rP true (Al false) s.2))])
theorem Yb {r4} {x6} {x5} (s) o (h:E4 r4 x6 x5 s=some o):vc Try.prog Oh (Ch [8,7,6,5,4,2,0,132] (I4 r4 x6 x5) (Ou r4 x6 x5) o) (I4 r4 x6 x5 s):=by
 obtain ⟨x8,x7,x132'⟩:=s;unfold E4 at h;try dsimp only at h
 refine Br.od h (λp15 h=> ?_) (λp15 h=> ?_)
 ·refine Cells.lit rfl rfl<|LendP.io Ae (rP true (Al false)) (by rfl) (λ_=>rfl) (λ_=>⟨rfl,rfl⟩) (λ_=>rfl) h (λr h=>At h) (λr16 u17 h=> ?_)
  refine BslQ.o Ae [r16] (by exact λ_=>⟨rfl,rfl⟩) (by rfl)<|NoOwn.o (λ_=>rfl)<|Kid.lit rfl rfl<|Kid.lit rfl rfl<|SetKids.lit rfl<|AppQ.o (m:=1) Ae (by exact λ_=>⟨rfl,rfl⟩) (x7.Table) ([r16]) (by rfl) (by rfl) h λh=>SetKids.lit rfl<|Ask.o h λp18 h=> ?_
  cases h;exact ⟨rfl,rfl⟩
 cases h;exact ⟨rfl,rfl⟩
noncomputable def E5 (r4:Int):(Int×SAlgebra×Sl1Cur)->Option ((Int×SAlgebra×Sl1Cur) ⊕ (SAlgebra×Sl1Cur)):=λ(x6,x5,x132)=>
 if x6>(0:Int) then
 (A5 (x132) ([(0:Int),(1:Int),(2:Int),(2:Int),(3:Int)])).bind λ(r9,u10)=>
 ((if r4=(4:Int) then
 if r9=(3:Int) then
 some ({ Arity:=(2:Int),Table:=Av Int })
 else
 some ({ Arity:=r9,Table:=Av Int })
 else
 some ({ Arity:=r9,Table:=Av Int }):Option SOp)).bind λq13_7=>
 (Dq (r4) (q13_7.Arity)).bind λr14=>
 (Aq (E4 r4 x6 x5) (r14,q13_7,u10)).bind λ(q19_7,q19_132)=>
 ask ((x5.Ops).length+([q19_7]).length<=LIM) <|
 ask (InI (x6-(1:Int))) <|
 some (.inl (x6-(1:Int),{ Size:=x5.Size,Ops:=x5.Ops++[q19_7] },q19_132))
 else
 some (.inr (x5,x132))
def Jc (r4:Int):(Int×SAlgebra×Sl1Cur)->St:=λs=>[(6,A.val (Ae s.1)),(5,A.val (rP true (Aj true) s.2.1)),(4,A.val (Ae r4)),(2,A.val ((rP true (Aj true)) ({ Size:=(0:Int),Ops:=Av SOp }))),(0,A.ref 132 []),(132,A.val (rP true (Al false) s.2.2))]
def Og (r4:Int):(SAlgebra×Sl1Cur)->Tgt
 | s=>((Ex.exit 0),[5,4,2,0,132],[(5,A.val (rP true (Aj true) s.1)),(4,A.val (Ae r4)),(2,A.val ((rP true (Aj true)) ({ Size:=(0:Int),Ops:=Av SOp }))),(0,A.ref 132 []),(132,A.val (rP true (Al false) s.2))])
theorem Xv {r4} (s) o (h:E5 r4 s=some o):vc Try.prog On (Ch [6,5,4,2,0,132] (Jc r4) (Og r4) o) (Jc r4 s):=by
 obtain ⟨x6,x5,x132⟩:=s;unfold E5 at h;try dsimp only at h
 refine Br.od h (λp8 h=> ?_) (λp8 h=> ?_)
 ·refine BslQ.o Ae ([(0:Int),(1:Int),(2:Int),(2:Int),(3:Int)]) (by exact λ_=>⟨rfl,rfl⟩) (by rfl)<|CallQ.io Ae (rP true (Al false)) (by rfl) rfl (λ_=>rfl) (λ_=>⟨rfl,rfl⟩) rfl h (λr h=>Bc h) (λr9 u10 h=> ?_)
  refine SetKids.lit rfl<|CutQ.o (λt:SOp=>match t with | s=>(Ex.normal,[7,6,5,4,2,0,132],[(7,A.val ((rP true (Bd true)) s)),(6,A.val (Ae (x6))),(5,A.val ((rP true (Aj true)) (x5))),(4,A.val (Ae (r4))),(2,A.val ((rP true (Aj true)) ({ Size:=(0:Int),Ops:=Av SOp }))),(0,A.ref 132 []),(132,A.val ((rP true (Al false)) (u10)))])) h ?_ ?_
  ·intro t h;refine Br.oe h (λp11 h=> ?_) (λp11 h=> ?_)
   ·refine Br.yes<|Cells.lit rfl rfl<|Br.yes<|Br.yes<|Br.oe h (λp12 h=> ?_) (λp12 h=> ?_)
    ·refine SetKids.lit rfl ?_;cases h;exact ⟨rfl,rfl⟩
    cases h;exact ⟨rfl,rfl⟩
   refine Br.no<|Br.no<|Br.no<|Br.no ?_
   cases h;exact ⟨rfl,rfl⟩
  rintro q13_7 h;try dsimp only at h
  refine Cells.lit rfl rfl<|CallQ.o Ae (by rfl) h (λr h=>Qe h) (λr14 h=> ?_)
  refine LoopQ.o [8,7,6,5,4,2,0,132] (I4 r4 x6 x5) (Ou r4 x6 x5) h (λs o h=>Yb s o h) (by rfl) (λ_=>rfl) ?_;rintro ⟨q19_7,q19_132⟩ h;try dsimp only at h
  refine Cells.lit rfl rfl<|Cells.lit rfl rfl<|BslQ.o (Bd true) [q19_7] (by exact λ_=>⟨rfl,rfl⟩) (by rfl)<|NoOwn.own rfl<|Kid.lit rfl rfl<|Kid.lit rfl rfl<|SetKids.lit rfl<|AppQ.o (m:=2) (Bd true) (by exact λ_=>⟨rfl,rfl⟩) (x5.Ops) ([q19_7]) (by rfl) (by rfl) h λh=>SetKids.lit rfl<|Ask.o h λp20 h=> ?_
  cases h;exact ⟨rfl,rfl⟩
 cases h;exact ⟨rfl,rfl⟩
noncomputable def E2 (r4:Int):(SAlgebra×Sl1Cur)->Option ((SAlgebra×Sl1Cur) ⊕ (SAlgebra×Sl1Cur)):=λ(x5,x132)=>
 (As (x132) ((2:Int))).bind λ(r52,u53)=>
 ask (InI ((4:Int)+r52)) <|
 if (↑x5.Ops.length:Int)<(4:Int)+r52 then
 ask ((0:Int)<=r4/\r4<=(↑LIM:Int)) <|
 ask ((x5.Ops).length+(([{ Arity:=(1:Int),Table:=List.replicate r4.toNat (0:Int) }]:List SOp)).length<=LIM) <|
 some (.inl ({ Size:=x5.Size,Ops:=x5.Ops++[{ Arity:=(1:Int),Table:=List.replicate r4.toNat (0:Int) }] },u53))
 else
 some (.inr (x5,u53))
def I2 (r4:Int):(SAlgebra×Sl1Cur)->St:=λs=>[(5,A.val (rP true (Aj true) s.1)),(4,A.val (Ae r4)),(2,A.val ((rP true (Aj true)) ({ Size:=(0:Int),Ops:=Av SOp }))),(0,A.ref 132 []),(132,A.val (rP true (Al false) s.2))]
def Of (_r4:Int):(SAlgebra×Sl1Cur)->Tgt
 | s=>((Ex.exit 5),[5,2,132],[(5,A.val (rP true (Aj true) s.1)),(2,A.val ((rP true (Aj true)) ({ Size:=(0:Int),Ops:=Av SOp }))),(132,A.val (rP true (Al false) s.2))])
theorem Yg {r4} (s) o (h:E2 r4 s=some o):vc Try.prog Oo (Ch [5,4,2,0,132] (I2 r4) (Of r4) o) (I2 r4 s):=by
 obtain ⟨x5,x132⟩:=s;unfold E2 at h;try dsimp only at h
 refine Cells.lit rfl rfl<|Kid.lit rfl rfl<|Len.map<|LendP.io Ae (rP true (Al false)) (by rfl) (λ_=>rfl) (λ_=>⟨rfl,rfl⟩) (λ_=>rfl) h (λr h=>At h) (λr52 u53 h=> ?_)
 refine Ask.o h λp54 h=>Br.od h (λp55 h=> ?_) (λp55 h=> ?_)
 ·refine Cells.lit rfl rfl<|SameQ.mk ⟨rfl,?_⟩
  refine Cells.lit rfl rfl<|SameQ.mk ⟨rfl,?_⟩
  refine SameQ.mk ⟨rfl,?_⟩;refine Ask.o h λp56 h=>MkQ.o Ae ((0:Int)) rfl<|SameQ.mk ⟨rfl,?_⟩
  refine Cells.lit rfl rfl<|SameQ.mk ⟨rfl,?_⟩
  refine SameQ.mk ⟨rfl,?_⟩;refine Cells.lit rfl rfl<|SameQ.mk ⟨rfl,?_⟩
  refine BslQ.o (Bd true) ([{ Arity:=(1:Int),Table:=List.replicate r4.toNat (0:Int) }]) (by exact λ_=>⟨rfl,rfl⟩) (by rfl)<|SameQ.mk ⟨rfl,?_⟩
  refine Cells.lit rfl rfl<|SameQ.mk ⟨rfl,?_⟩
  refine NoOwn.own rfl<|Kid.lit rfl rfl<|Kid.lit rfl rfl<|SetKids.lit rfl<|AppQ.o (m:=2) (Bd true) (by exact λ_=>⟨rfl,rfl⟩) (x5.Ops) ([{ Arity:=(1:Int),Table:=List.replicate r4.toNat (0:Int) }]) (by rfl) (by rfl) h λh=>SetKids.lit rfl ?_
  cases h;exact ⟨rfl,rfl⟩
 cases h;exact ⟨rfl,rfl⟩
noncomputable def Gp (c0:Sl1Cur):Option (SAlgebra×Sl1Cur):=
 (Bt (c0) ((4:Int))).bind λ(r1,u2)=>
 if (r1)=true then
 (A5 (u2) ([(2:Int),(2:Int),(3:Int),(3:Int),(4:Int)])).bind λ(r4,u5)=>
 (A5 (u5) ([(1:Int),(1:Int),(2:Int)])).bind λ(r6,u7)=>
 (Aq (E5 r4) (r6,{ Size:=r4,Ops:=Av SOp },u7)).bind λ(q21_5,q21_132)=>
 (As (q21_132) ((16:Int))).bind λ(r22,u23)=>
 if r22=(0:Int) then
 ask (InI (r4+(1:Int))) <|
 (A5 (u23) ([(0:Int),(9:Int),r4+(1:Int)])).bind λ(r26,u27)=>
 some ({ Size:=r26,Ops:=q21_5.Ops },u27)
 else
 if r22=(1:Int) then
 ask ((0:Int)<=(0:Int)/\(0:Int)<(↑q21_5.Ops.length:Int)) <|
 ask (((nth q21_5.Ops (Int.toNat (0:Int))).Table).length+([(0:Int)]).length<=LIM) <|
 some ({ Size:=q21_5.Size,Ops:=q21_5.Ops.set (Int.toNat (0:Int)) { Arity:=(nth q21_5.Ops (Int.toNat (0:Int))).Arity,Table:=(nth q21_5.Ops (Int.toNat (0:Int))).Table++[(0:Int)] } },u23)
 else
 if r22=(2:Int) then
 ask ((0:Int)<=(0:Int)/\(0:Int)<(↑q21_5.Ops.length:Int)) <|
 (As (u23) ((↑(nth q21_5.Ops (Int.toNat (0:Int))).Table.length:Int))).bind λ(r32,u33)=>
 (A5 (u33) ([(-1:Int),r4])).bind λ(r34,u35)=>
 ask ((0:Int)<=r32/\r32<(↑(nth q21_5.Ops (Int.toNat (0:Int))).Table.length:Int)) <|
 some ({ Size:=q21_5.Size,Ops:=q21_5.Ops.set (Int.toNat (0:Int)) { Arity:=(nth q21_5.Ops (Int.toNat (0:Int))).Arity,Table:=(nth q21_5.Ops (Int.toNat (0:Int))).Table.set r32.toNat r34 } },u35)
 else
 if r22=(3:Int) then
 (A5 (u23) ([(-1:Int),(4:Int)])).bind λ(r48,u49)=>
 ask ((0:Int)<=(0:Int)/\(0:Int)<(↑q21_5.Ops.length:Int)) <|
 some ({ Size:=q21_5.Size,Ops:=q21_5.Ops.set (Int.toNat (0:Int)) { Arity:=r48,Table:=(nth q21_5.Ops (Int.toNat (0:Int))).Table } },u49)
 else
 if r22=(4:Int) then
 (Aq (E2 r4) (q21_5,u23)).bind λ(q57_5,q57_132)=>
 some (q57_5,q57_132)
 else
 some (q21_5,u23)
 else
 (As (u2) ((17:Int))).bind λ(r58,u59)=>
 (I9 (r58)).bind λr60=>
 some (r60,u59)
theorem Acy {c0} {v} (h:Gp c0=some v):Sn Try.prog Ls [(rP true (Al false)) c0] (Aj true v.1) 0 (rP true (Al false) v.2):=by
 refine Ql Ab7 (Nat.le_of_ble_eq_true rfl) ?_;unfold Gp at h;refine CallQ.io V.bool (rP true (Al false)) (by rfl) rfl (λ_=>rfl) (λ_=>⟨rfl,rfl⟩) rfl h (λr h=>Dj h) (λr1 u2 h=> ?_);refine Br.flip ?_;refine Br.ob h (λp3 h=> ?_) (λp3 h=> ?_)
 ·refine BslQ.o Ae ([(2:Int),(2:Int),(3:Int),(3:Int),(4:Int)]) (by exact λ_=>⟨rfl,rfl⟩) (by rfl) ?_;refine CallQ.io Ae (rP true (Al false)) (by rfl) rfl (λ_=>rfl) (λ_=>⟨rfl,rfl⟩) rfl h (λr h=>Bc h) (λr4 u5 h=> ?_);refine SetKids.lit rfl ?_;refine BslQ.o Ae ([(1:Int),(1:Int),(2:Int)]) (by exact λ_=>⟨rfl,rfl⟩) (by rfl) ?_;refine CallQ.io Ae (rP true (Al false)) (by rfl) rfl (λ_=>rfl) (λ_=>⟨rfl,rfl⟩) rfl h (λr h=>Bc h) (λr6 u7 h=> ?_);refine LoopQ.o [6,5,4,2,0,132] (Jc r4) (Og r4) h (λs o h=>Xv s o h) (by rfl) (λ_=>rfl) ?_;rintro ⟨q21_5,q21_132⟩ h;try dsimp only at h
  refine CallQ.io Ae (rP true (Al false)) (by rfl) rfl (λ_=>rfl) (λ_=>⟨rfl,rfl⟩) rfl h (λr h=>At h) (λr22 u23 h=> ?_);refine Br.oe h (λp24 h=> ?_) (λp24 h=> ?_)
  ·refine Ask.o h λp25 h=> ?_
   refine BslQ.o Ae ([(0:Int),(9:Int),r4+(1:Int)]) (by exact λ_=>⟨rfl,rfl⟩) (by rfl) ?_;refine CallQ.io Ae (rP true (Al false)) (by rfl) rfl (λ_=>rfl) (λ_=>⟨rfl,rfl⟩) rfl h (λr h=>Bc h) (λr26 u27 h=> ?_);refine SetKids.lit rfl ?_;refine Cells.lit rfl rfl ?_;refine SetKids.lit rfl ?_;cases h;exact ⟨(by rfl),(by rfl)⟩
  refine Br.oe h (λp28 h=> ?_) (λp28 h=> ?_)
  ·refine Cells.lit rfl rfl ?_;refine Cells.lit rfl rfl ?_;refine Kid.lit rfl rfl ?_;refine Len.map ?_;refine Ask.o h λp29 h=> ?_
   refine Kid.lit rfl rfl ?_;refine Cells.wide (by exact λ_=>⟨rfl,rfl⟩) (by first | omega | (simp [Au] at * <;> omega)) (by decide) ?_;refine SameQ.mk ⟨rfl,?_⟩;refine Cells.lit rfl rfl ?_;refine SameQ.mk ⟨rfl,?_⟩;refine SameQ.mk ⟨rfl,?_⟩;refine Cells.lit rfl rfl ?_;refine SameQ.mk ⟨rfl,?_⟩;refine Kid.lit rfl rfl ?_;refine Len.map ?_;refine Ask.mk p29 ?_;refine SameQ.mk ⟨rfl,?_⟩;refine SameQ.mk ⟨rfl,?_⟩;refine Kid.lit rfl rfl ?_;refine Cells.wide (by exact λ_=>⟨rfl,rfl⟩) (by first | omega | (simp [Au] at * <;> omega)) (by decide) ?_;refine SameQ.mk ⟨rfl,?_⟩;refine BslQ.o Ae ([(0:Int)]) (by exact λ_=>⟨rfl,rfl⟩) (by rfl) ?_;refine SameQ.mk ⟨rfl,?_⟩;refine Cells.lit rfl rfl ?_;refine SameQ.mk ⟨rfl,?_⟩;refine SameQ.mk ⟨rfl,?_⟩;refine Cells.lit rfl rfl ?_;refine SameQ.mk ⟨rfl,?_⟩;refine Kid.lit rfl rfl ?_;refine Len.map ?_;refine Ask.mk p29 ?_;refine SameQ.mk ⟨rfl,?_⟩;refine SameQ.mk ⟨rfl,?_⟩;refine Kid.lit rfl rfl ?_;refine Cells.wide (by exact λ_=>⟨rfl,rfl⟩) (by first | omega | (simp [Au] at * <;> omega)) (by decide) ?_;refine SameQ.mk ⟨rfl,?_⟩;refine NoOwn.o (λ_=>rfl) ?_;refine Kid.lit rfl rfl ?_;refine Kid.wide (by exact λ_=>⟨rfl,rfl⟩) (by first | omega | (simp [Au] at * <;> omega)) (by rfl) ?_;refine Kid.lit rfl rfl ?_;refine Kid.wide (by exact λ_=>⟨rfl,rfl⟩) (by first | omega | (simp [Au] at * <;> omega)) (by rfl) ?_;refine SetKids.mkholeW (by exact λ_=>⟨rfl,rfl⟩) _ (by first | omega | (simp [Au] at * <;> omega)) (by rfl) (by decide) ?_;refine SetKids.lit rfl ?_;refine AppQ.o (m:=1) Ae (by exact λ_=>⟨rfl,rfl⟩) ((nth q21_5.Ops (Int.toNat (0:Int))).Table) ([(0:Int)]) (by rfl) (by rfl) h λh=> ?_
   refine SameQ.mk ⟨rfl,?_⟩;refine Cells.lit rfl rfl ?_;refine SameQ.mk ⟨rfl,?_⟩;refine Kid.lit rfl rfl ?_;refine Len.holeW ?_;refine Ask.mk p29 ?_;refine Kid.lit rfl rfl ?_;refine SetKids.fillW (by exact λ_=>⟨rfl,rfl⟩) ({ Arity:=(nth q21_5.Ops (Int.toNat (0:Int))).Arity,Table:=(nth q21_5.Ops (Int.toNat (0:Int))).Table++[(0:Int)] }) (by first | omega | (simp [Au] at * <;> omega)) (by rfl) (by rfl) (by decide) ?_;refine Kid.lit rfl rfl ?_;refine SetKids.lit rfl ?_;refine Cells.lit rfl rfl ?_;refine SetKids.lit rfl ?_;cases h;exact ⟨(by rfl),(by rfl)⟩
  refine Br.oe h (λp30 h=> ?_) (λp30 h=> ?_)
  ·refine Cells.lit rfl rfl ?_;refine Kid.lit rfl rfl ?_;refine Len.map ?_;refine Ask.o h λp31 h=> ?_
   refine Kid.lit rfl rfl ?_;refine Cells.wide (by exact λ_=>⟨rfl,rfl⟩) (by first | omega | (simp [Au] at * <;> omega)) (by decide) ?_;refine Cells.lit rfl rfl ?_;refine Kid.lit rfl rfl ?_;refine Len.map ?_;refine Ask.mk p31 ?_;refine Kid.lit rfl rfl ?_;refine Cells.wide (by exact λ_=>⟨rfl,rfl⟩) (by first | omega | (simp [Au] at * <;> omega)) (by decide) ?_;refine Two.mk ⟨?_,?_⟩
   ·refine SameQ.mk ⟨rfl,?_⟩;refine Cells.lit rfl rfl ?_;refine SameQ.mk ⟨rfl,?_⟩;refine Kid.lit rfl rfl ?_;refine Len.map ?_;refine Ask.mk p31 ?_;refine SameQ.mk ⟨rfl,?_⟩;refine SameQ.mk ⟨rfl,?_⟩;refine Kid.lit rfl rfl ?_;refine Cells.wide (by exact λ_=>⟨rfl,rfl⟩) (by first | omega | (simp [Au] at * <;> omega)) (by decide) ?_;refine SameQ.mk ⟨rfl,?_⟩;refine SameQ.mk ⟨rfl,?_⟩;refine SameQ.mk ⟨rfl,?_⟩;refine Cells.lit rfl rfl ?_;refine SameQ.mk ⟨rfl,?_⟩;refine Kid.lit rfl rfl ?_;refine Len.map ?_;refine Ask.mk p31 ?_;refine SameQ.mk ⟨rfl,?_⟩;refine SameQ.mk ⟨rfl,?_⟩;refine Kid.lit rfl rfl ?_;refine Cells.wide (by exact λ_=>⟨rfl,rfl⟩) (by first | omega | (simp [Au] at * <;> omega)) (by decide) ?_;refine SameQ.mk ⟨rfl,?_⟩;refine SameQ.mk ⟨rfl,?_⟩;refine SameQ.mk ⟨rfl,?_⟩;refine Kid.lit rfl rfl ?_;refine Kid.wide (by exact λ_=>⟨rfl,rfl⟩) (by first | omega | (simp [Au] at * <;> omega)) (by rfl) ?_;refine Len.map ?_;refine Two.mk ⟨?_,?_⟩
    ·refine SameQ.mk ⟨rfl,?_⟩;refine Cells.lit rfl rfl ?_;refine SameQ.mk ⟨rfl,?_⟩;refine Kid.lit rfl rfl ?_;refine Len.map ?_;refine Ask.mk p31 ?_;refine SameQ.mk ⟨rfl,?_⟩;refine SameQ.mk ⟨rfl,?_⟩;refine Kid.lit rfl rfl ?_;refine Cells.wide (by exact λ_=>⟨rfl,rfl⟩) (by first | omega | (simp [Au] at * <;> omega)) (by decide) ?_;refine SameQ.mk ⟨rfl,?_⟩;refine SameQ.mk ⟨rfl,?_⟩;refine SameQ.mk ⟨rfl,?_⟩;refine SameQ.mk ⟨rfl,?_⟩;refine CallQ.io Ae (rP true (Al false)) (by rfl) rfl (λ_=>rfl) (λ_=>⟨rfl,rfl⟩) rfl h (λr h=>At h) (λr32 u33 h=> ?_);refine SameQ.mk ⟨rfl,?_⟩;refine Cells.lit rfl rfl ?_;refine SameQ.mk ⟨rfl,?_⟩;refine Kid.lit rfl rfl ?_;refine Len.map ?_;refine Ask.mk p31 ?_;refine SameQ.mk ⟨rfl,?_⟩;refine SameQ.mk ⟨rfl,?_⟩;refine Kid.lit rfl rfl ?_;refine Cells.wide (by exact λ_=>⟨rfl,rfl⟩) (by first | omega | (simp [Au] at * <;> omega)) (by decide) ?_;refine SameQ.mk ⟨rfl,?_⟩;refine SameQ.mk ⟨rfl,?_⟩;refine SameQ.mk ⟨rfl,?_⟩;refine BslQ.o Ae ([(-1:Int),r4]) (by exact λ_=>⟨rfl,rfl⟩) (by rfl) ?_;refine SameQ.mk ⟨rfl,?_⟩;refine Cells.lit rfl rfl ?_;refine SameQ.mk ⟨rfl,?_⟩;refine Kid.lit rfl rfl ?_;refine Len.map ?_;refine Ask.mk p31 ?_;refine SameQ.mk ⟨rfl,?_⟩;refine SameQ.mk ⟨rfl,?_⟩;refine Kid.lit rfl rfl ?_;refine Cells.wide (by exact λ_=>⟨rfl,rfl⟩) (by first | omega | (simp [Au] at * <;> omega)) (by decide) ?_;refine SameQ.mk ⟨rfl,?_⟩;refine SameQ.mk ⟨rfl,?_⟩;refine CallQ.io Ae (rP true (Al false)) (by rfl) rfl (λ_=>rfl) (λ_=>⟨rfl,rfl⟩) rfl h (λr h=>Bc h) (λr34 u35 h=> ?_);refine SameQ.mk ⟨rfl,?_⟩;refine Cells.lit rfl rfl ?_;refine SameQ.mk ⟨rfl,?_⟩;refine Kid.lit rfl rfl ?_;refine Len.map ?_;refine Ask.mk p31 ?_;refine SameQ.mk ⟨rfl,?_⟩;refine SameQ.mk ⟨rfl,?_⟩;refine Kid.lit rfl rfl ?_;refine Cells.wide (by exact λ_=>⟨rfl,rfl⟩) (by first | omega | (simp [Au] at * <;> omega)) (by decide) ?_;refine SameQ.mk ⟨rfl,?_⟩;refine Kid.lit rfl rfl ?_;refine Kid.wide (by exact λ_=>⟨rfl,rfl⟩) (by first | omega | (simp [Au] at * <;> omega)) (by rfl) ?_;refine Len.map ?_;refine Ask.o h λp36 h=> ?_
     refine Kid.lit rfl rfl ?_;refine Kid.wide (by exact λ_=>⟨rfl,rfl⟩) (by first | omega | (simp [Au] at * <;> omega)) (by rfl) ?_;refine SetKids.one (λ_=>⟨rfl,rfl⟩) (r34) (by rfl) (by first | omega | (simp [Au] at * <;> omega)) ?_;refine Kid.lit rfl rfl ?_;refine Kid.wide (by exact λ_=>⟨rfl,rfl⟩) (by first | omega | (simp [Au] at * <;> omega)) (by rfl) ?_;refine SetKids.wide (by exact λ_=>⟨rfl,rfl⟩) ({ Arity:=(nth q21_5.Ops (Int.toNat (0:Int))).Arity,Table:=(nth q21_5.Ops (Int.toNat (0:Int))).Table.set r32.toNat r34 }) (by first | omega | (simp [Au] at * <;> omega)) (by rfl) (by decide) ?_;refine SetKids.lit rfl ?_;refine Cells.lit rfl rfl ?_;refine SetKids.lit rfl ?_;cases h;exact ⟨(by rfl),(by rfl)⟩
    refine SameQ.mk ⟨rfl,?_⟩;refine Cells.lit rfl rfl ?_;refine SameQ.mk ⟨rfl,?_⟩;refine Kid.lit rfl rfl ?_;refine Len.map ?_;refine Ask.mk p31 ?_;refine SameQ.mk ⟨rfl,?_⟩;refine SameQ.mk ⟨rfl,?_⟩;refine Kid.lit rfl rfl ?_;refine Cells.wide (by exact λ_=>⟨rfl,rfl⟩) (by first | omega | (simp [Au] at * <;> omega)) (by decide) ?_;refine SameQ.mk ⟨rfl,?_⟩;refine SameQ.mk ⟨rfl,?_⟩;refine SameQ.mk ⟨rfl,?_⟩;refine SameQ.mk ⟨rfl,?_⟩;refine BslQ.o Ae ([(-1:Int),r4]) (by exact λ_=>⟨rfl,rfl⟩) (by rfl) ?_;refine SameQ.mk ⟨rfl,?_⟩;refine Cells.lit rfl rfl ?_;refine SameQ.mk ⟨rfl,?_⟩;refine Kid.lit rfl rfl ?_;refine Len.map ?_;refine Ask.mk p31 ?_;refine SameQ.mk ⟨rfl,?_⟩;refine SameQ.mk ⟨rfl,?_⟩;refine Kid.lit rfl rfl ?_;refine Cells.wide (by exact λ_=>⟨rfl,rfl⟩) (by first | omega | (simp [Au] at * <;> omega)) (by decide) ?_;refine SameQ.mk ⟨rfl,?_⟩;refine SameQ.mk ⟨rfl,?_⟩;refine SameQ.mk ⟨rfl,?_⟩;refine CallQ.io Ae (rP true (Al false)) (by rfl) rfl (λ_=>rfl) (λ_=>⟨rfl,rfl⟩) rfl h (λr h=>At h) (λr37 u38 h=> ?_);refine SameQ.mk ⟨rfl,?_⟩;refine Cells.lit rfl rfl ?_;refine SameQ.mk ⟨rfl,?_⟩;refine Kid.lit rfl rfl ?_;refine Len.map ?_;refine Ask.mk p31 ?_;refine SameQ.mk ⟨rfl,?_⟩;refine SameQ.mk ⟨rfl,?_⟩;refine Kid.lit rfl rfl ?_;refine Cells.wide (by exact λ_=>⟨rfl,rfl⟩) (by first | omega | (simp [Au] at * <;> omega)) (by decide) ?_;refine SameQ.mk ⟨rfl,?_⟩;refine SameQ.mk ⟨rfl,?_⟩;refine CallQ.io Ae (rP true (Al false)) (by rfl) rfl (λ_=>rfl) (λ_=>⟨rfl,rfl⟩) rfl h (λr h=>Bc h) (λr39 u40 h=> ?_);refine SameQ.mk ⟨rfl,?_⟩;refine Cells.lit rfl rfl ?_;refine SameQ.mk ⟨rfl,?_⟩;refine Kid.lit rfl rfl ?_;refine Len.map ?_;refine Ask.mk p31 ?_;refine SameQ.mk ⟨rfl,?_⟩;refine SameQ.mk ⟨rfl,?_⟩;refine Kid.lit rfl rfl ?_;refine Cells.wide (by exact λ_=>⟨rfl,rfl⟩) (by first | omega | (simp [Au] at * <;> omega)) (by decide) ?_;refine SameQ.mk ⟨rfl,?_⟩;refine Kid.lit rfl rfl ?_;refine Kid.wide (by exact λ_=>⟨rfl,rfl⟩) (by first | omega | (simp [Au] at * <;> omega)) (by rfl) ?_;refine Len.map ?_;refine Ask.o h λp41 h=> ?_
    refine Kid.lit rfl rfl ?_;refine Kid.wide (by exact λ_=>⟨rfl,rfl⟩) (by first | omega | (simp [Au] at * <;> omega)) (by rfl) ?_;refine SetKids.one (λ_=>⟨rfl,rfl⟩) (r39) (by rfl) (by first | omega | (simp [Au] at * <;> omega)) ?_;refine Kid.lit rfl rfl ?_;refine Kid.wide (by exact λ_=>⟨rfl,rfl⟩) (by first | omega | (simp [Au] at * <;> omega)) (by rfl) ?_;refine SetKids.wide (by exact λ_=>⟨rfl,rfl⟩) ({ Arity:=(nth q21_5.Ops (Int.toNat (0:Int))).Arity,Table:=(nth q21_5.Ops (Int.toNat (0:Int))).Table.set r37.toNat r39 }) (by first | omega | (simp [Au] at * <;> omega)) (by rfl) (by decide) ?_;refine SetKids.lit rfl ?_;refine Cells.lit rfl rfl ?_;refine SetKids.lit rfl ?_;cases h;exact ⟨(by rfl),(by rfl)⟩
   refine SameQ.mk ⟨rfl,?_⟩;refine Cells.lit rfl rfl ?_;refine SameQ.mk ⟨rfl,?_⟩;refine Kid.lit rfl rfl ?_;refine Len.map ?_;refine Ask.mk p31 ?_;refine SameQ.mk ⟨rfl,?_⟩;refine SameQ.mk ⟨rfl,?_⟩;refine Kid.lit rfl rfl ?_;refine Cells.wide (by exact λ_=>⟨rfl,rfl⟩) (by first | omega | (simp [Au] at * <;> omega)) (by decide) ?_;refine SameQ.mk ⟨rfl,?_⟩;refine SameQ.mk ⟨rfl,?_⟩;refine SameQ.mk ⟨rfl,?_⟩;refine Cells.lit rfl rfl ?_;refine SameQ.mk ⟨rfl,?_⟩;refine Kid.lit rfl rfl ?_;refine Len.map ?_;refine Ask.mk p31 ?_;refine SameQ.mk ⟨rfl,?_⟩;refine SameQ.mk ⟨rfl,?_⟩;refine Kid.lit rfl rfl ?_;refine Cells.wide (by exact λ_=>⟨rfl,rfl⟩) (by first | omega | (simp [Au] at * <;> omega)) (by decide) ?_;refine SameQ.mk ⟨rfl,?_⟩;refine SameQ.mk ⟨rfl,?_⟩;refine SameQ.mk ⟨rfl,?_⟩;refine BslQ.o Ae ([(-1:Int),r4]) (by exact λ_=>⟨rfl,rfl⟩) (by rfl) ?_;refine SameQ.mk ⟨rfl,?_⟩;refine Cells.lit rfl rfl ?_;refine SameQ.mk ⟨rfl,?_⟩;refine Kid.lit rfl rfl ?_;refine Len.map ?_;refine Ask.mk p31 ?_;refine SameQ.mk ⟨rfl,?_⟩;refine SameQ.mk ⟨rfl,?_⟩;refine Kid.lit rfl rfl ?_;refine Cells.wide (by exact λ_=>⟨rfl,rfl⟩) (by first | omega | (simp [Au] at * <;> omega)) (by decide) ?_;refine SameQ.mk ⟨rfl,?_⟩;refine SameQ.mk ⟨rfl,?_⟩;refine SameQ.mk ⟨rfl,?_⟩;refine Cells.lit rfl rfl ?_;refine SameQ.mk ⟨rfl,?_⟩;refine Kid.lit rfl rfl ?_;refine Len.map ?_;refine Ask.mk p31 ?_;refine SameQ.mk ⟨rfl,?_⟩;refine SameQ.mk ⟨rfl,?_⟩;refine Kid.lit rfl rfl ?_;refine Cells.wide (by exact λ_=>⟨rfl,rfl⟩) (by first | omega | (simp [Au] at * <;> omega)) (by decide) ?_;refine SameQ.mk ⟨rfl,?_⟩;refine SameQ.mk ⟨rfl,?_⟩;refine Kid.lit rfl rfl ?_;refine Kid.wide (by exact λ_=>⟨rfl,rfl⟩) (by first | omega | (simp [Au] at * <;> omega)) (by rfl) ?_;refine Len.map ?_;refine SameQ.mk ⟨rfl,?_⟩;refine Cells.lit rfl rfl ?_;refine SameQ.mk ⟨rfl,?_⟩;refine Kid.lit rfl rfl ?_;refine Len.map ?_;refine Ask.mk p31 ?_;refine SameQ.mk ⟨rfl,?_⟩;refine SameQ.mk ⟨rfl,?_⟩;refine Kid.lit rfl rfl ?_;refine Cells.wide (by exact λ_=>⟨rfl,rfl⟩) (by first | omega | (simp [Au] at * <;> omega)) (by decide) ?_;refine SameQ.mk ⟨rfl,?_⟩;refine SameQ.mk ⟨rfl,?_⟩;refine SameQ.mk ⟨rfl,?_⟩;refine CallQ.io Ae (rP true (Al false)) (by rfl) rfl (λ_=>rfl) (λ_=>⟨rfl,rfl⟩) rfl h (λr h=>At h) (λr42 u43 h=> ?_);refine SameQ.mk ⟨rfl,?_⟩;refine Cells.lit rfl rfl ?_;refine SameQ.mk ⟨rfl,?_⟩;refine Kid.lit rfl rfl ?_;refine Len.map ?_;refine Ask.mk p31 ?_;refine SameQ.mk ⟨rfl,?_⟩;refine SameQ.mk ⟨rfl,?_⟩;refine Kid.lit rfl rfl ?_;refine Cells.wide (by exact λ_=>⟨rfl,rfl⟩) (by first | omega | (simp [Au] at * <;> omega)) (by decide) ?_;refine SameQ.mk ⟨rfl,?_⟩;refine SameQ.mk ⟨rfl,?_⟩;refine CallQ.io Ae (rP true (Al false)) (by rfl) rfl (λ_=>rfl) (λ_=>⟨rfl,rfl⟩) rfl h (λr h=>Bc h) (λr44 u45 h=> ?_);refine SameQ.mk ⟨rfl,?_⟩;refine Cells.lit rfl rfl ?_;refine SameQ.mk ⟨rfl,?_⟩;refine Kid.lit rfl rfl ?_;refine Len.map ?_;refine Ask.mk p31 ?_;refine SameQ.mk ⟨rfl,?_⟩;refine SameQ.mk ⟨rfl,?_⟩;refine Kid.lit rfl rfl ?_;refine Cells.wide (by exact λ_=>⟨rfl,rfl⟩) (by first | omega | (simp [Au] at * <;> omega)) (by decide) ?_;refine SameQ.mk ⟨rfl,?_⟩;refine Kid.lit rfl rfl ?_;refine Kid.wide (by exact λ_=>⟨rfl,rfl⟩) (by first | omega | (simp [Au] at * <;> omega)) (by rfl) ?_;refine Len.map ?_;refine Ask.o h λp46 h=> ?_
   refine Kid.lit rfl rfl ?_;refine Kid.wide (by exact λ_=>⟨rfl,rfl⟩) (by first | omega | (simp [Au] at * <;> omega)) (by rfl) ?_;refine SetKids.one (λ_=>⟨rfl,rfl⟩) (r44) (by rfl) (by first | omega | (simp [Au] at * <;> omega)) ?_;refine Kid.lit rfl rfl ?_;refine Kid.wide (by exact λ_=>⟨rfl,rfl⟩) (by first | omega | (simp [Au] at * <;> omega)) (by rfl) ?_;refine SetKids.wide (by exact λ_=>⟨rfl,rfl⟩) ({ Arity:=(nth q21_5.Ops (Int.toNat (0:Int))).Arity,Table:=(nth q21_5.Ops (Int.toNat (0:Int))).Table.set r42.toNat r44 }) (by first | omega | (simp [Au] at * <;> omega)) (by rfl) (by decide) ?_;refine SetKids.lit rfl ?_;refine Cells.lit rfl rfl ?_;refine SetKids.lit rfl ?_;cases h;exact ⟨(by rfl),(by rfl)⟩
  refine Br.oe h (λp47 h=> ?_) (λp47 h=> ?_)
  ·refine Cells.lit rfl rfl ?_;refine SameQ.mk ⟨rfl,?_⟩;refine Cells.lit rfl rfl ?_;refine SameQ.mk ⟨rfl,?_⟩;refine SameQ.mk ⟨rfl,?_⟩;refine BslQ.o Ae ([(-1:Int),(4:Int)]) (by exact λ_=>⟨rfl,rfl⟩) (by rfl) ?_;refine SameQ.mk ⟨rfl,?_⟩;refine Cells.lit rfl rfl ?_;refine SameQ.mk ⟨rfl,?_⟩;refine SameQ.mk ⟨rfl,?_⟩;refine CallQ.io Ae (rP true (Al false)) (by rfl) rfl (λ_=>rfl) (λ_=>⟨rfl,rfl⟩) rfl h (λr h=>Bc h) (λr48 u49 h=> ?_);refine SameQ.mk ⟨rfl,?_⟩;refine Cells.lit rfl rfl ?_;refine SameQ.mk ⟨rfl,?_⟩;refine Kid.lit rfl rfl ?_;refine Len.map ?_;refine Ask.o h λp50 h=> ?_
   refine Kid.lit rfl rfl ?_;refine SetKids.wide (by exact λ_=>⟨rfl,rfl⟩) ({ Arity:=r48,Table:=(nth q21_5.Ops (Int.toNat (0:Int))).Table }) (by first | omega | (simp [Au] at * <;> omega)) (by rfl) (by decide) ?_;refine Kid.lit rfl rfl ?_;refine SetKids.lit rfl ?_;refine Cells.lit rfl rfl ?_;refine SetKids.lit rfl ?_;cases h;exact ⟨(by rfl),(by rfl)⟩
  refine Br.oe h (λp51 h=> ?_) (λp51 h=> ?_)
  ·refine LoopQ.o [5,4,2,0,132] (I2 r4) (Of r4) h (λs o h=>Yg s o h) (by rfl) (λ_=>rfl) ?_;rintro ⟨q57_5,q57_132⟩ h;try dsimp only at h
   refine Cells.lit rfl rfl ?_;refine SetKids.lit rfl ?_;cases h;exact ⟨(by rfl),(by rfl)⟩
  refine Cells.lit rfl rfl ?_;refine SetKids.lit rfl ?_;cases h;exact ⟨(by rfl),(by rfl)⟩
 refine CallQ.io Ae (rP true (Al false)) (by rfl) rfl (λ_=>rfl) (λ_=>⟨rfl,rfl⟩) rfl h (λr h=>At h) (λr58 u59 h=> ?_);refine CallQ.o (Aj true) (by rfl) h (λr h=>Ack h) (λr60 h=> ?_);refine SetKids.lit rfl ?_;refine Cells.lit rfl rfl ?_;refine SetKids.lit rfl ?_;cases h;exact ⟨(by rfl),(by rfl)⟩
end Go.Proofs.Ytaalgpkajkogkaa.Ax
