/-
 What the functions compute, as functions on plain data, and that the program does compute it; written by program.
-/
import Derived.Test.YtmmcfdfdacpjgaaCode
import Derived.Test.YtmmcfdfdacpjgaaG1
import Derived.Test.YtmmcfdfdacpjgaaG4
import Derived.Test.YtmmcfdfdacpjgaaG5
import Derived.Test.YtmmcfdfdacpjgaaG6
namespace Go.Proofs.Ytmmcfdfdacpjgaa.Ax
open Go
set_option maxRecDepth 100000
set_option maxHeartbeats 4000000
noncomputable def Hx (c0:Sl1Cur) (a0:SAlgebra):Option (Int×Sl1Cur):=
 if (↑a0.Ops.length:Int)=(0:Int) then
 (Bc (c0) ([(-1:Int),(0:Int),(↑a0.Ops.length:Int)])).bind fun (r2,u3)=>
 some (r2,u3)
 else
 (Bz (c0) ((16:Int))).bind fun (r4,u5)=>
 if (r4)=true then
 (Bc (u5) ([(-1:Int),(0:Int),(↑a0.Ops.length:Int)])).bind fun (r7,u8)=>
 some (r7,u8)
 else
 (A7 (u5) ((↑a0.Ops.length:Int))).bind fun (r9,u10)=>
 some (r9,u10)
theorem Afb {c0} {a0} {v} (h:Hx c0 a0=some v):Se Try.prog N9 [(rP true (Aj false)) c0,(Af false) a0] (Ae v.1) 0 (rP true (Aj false) v.2):=by
 refine Q9 Af3 (Nat.le_of_ble_eq_true rfl) ?_
 unfold Hx at h
 conv=>whnf
 refine Cells.lit rfl rfl ?_
 conv=>whnf
 refine Len.map ?_
 conv=>whnf
 refine Br.oe h (fun p1 h=> ?_) (fun p1 h=> ?_)
 ·conv=>whnf
  refine Br.yes ?_
  conv=>whnf
  refine Br.yes ?_
  conv=>whnf
  refine Br.yes ?_
  conv=>whnf
  refine Cells.lit rfl rfl ?_
  conv=>whnf
  refine Len.map ?_
  conv=>whnf
  refine BslQ.o Ae ([(-1:Int),(0:Int),(↑a0.Ops.length:Int)]) (by exact fun _=>⟨rfl,rfl⟩) (by rfl) ?_
  conv=>whnf
  refine CallQ.io Ae (rP true (Aj false)) (by rfl) rfl (fun _=>rfl) (fun _=>⟨rfl,rfl⟩) rfl h (fun r h=>Bj h) (fun r2 u3 h=> ?_)
  conv=>whnf
  cases h;exact ⟨(by rfl),(by rfl)⟩
 conv=>whnf
 refine Br.no ?_
 conv=>whnf
 refine CallQ.io V.bool (rP true (Aj false)) (by rfl) rfl (fun _=>rfl) (fun _=>⟨rfl,rfl⟩) rfl h (fun r h=>Et h) (fun r4 u5 h=> ?_)
 conv=>whnf
 refine Br.no ?_
 conv=>whnf
 refine Br.ob h (fun p6 h=> ?_) (fun p6 h=> ?_)
 ·conv=>whnf
  refine Cells.lit rfl rfl ?_
  conv=>whnf
  refine Len.map ?_
  conv=>whnf
  refine BslQ.o Ae ([(-1:Int),(0:Int),(↑a0.Ops.length:Int)]) (by exact fun _=>⟨rfl,rfl⟩) (by rfl) ?_
  conv=>whnf
  refine CallQ.io Ae (rP true (Aj false)) (by rfl) rfl (fun _=>rfl) (fun _=>⟨rfl,rfl⟩) rfl h (fun r h=>Bj h) (fun r7 u8 h=> ?_)
  conv=>whnf
  cases h;exact ⟨(by rfl),(by rfl)⟩
 conv=>whnf
 refine Cells.lit rfl rfl ?_
 conv=>whnf
 refine Len.map ?_
 conv=>whnf
 refine CallQ.io Ae (rP true (Aj false)) (by rfl) rfl (fun _=>rfl) (fun _=>⟨rfl,rfl⟩) rfl h (fun r h=>Bf h) (fun r9 u10 h=> ?_)
 conv=>whnf
 cases h;exact ⟨(by rfl),(by rfl)⟩
noncomputable def Gs (a0:SAlgebra) (op0:Int):Option Bool:=
 (Hj (a0)).bind fun r1=>
 if (r1)=true then
 ask (InI ((↑a0.Ops.length:Int)-(1:Int))) <|
 (Ec (op0) ((0:Int)) ((↑a0.Ops.length:Int)-(1:Int))).bind fun r4=>
 some r4
 else
 some false
theorem Zd {a0} {op0} {v} (h:Gs a0 op0=some v):Ret Try.prog M9 [(Af false) a0,Ae op0] (V.bool v):=by
 refine Ba Ajr (Nat.le_of_ble_eq_true rfl) ?_
 unfold Gs at h
 conv=>whnf
 refine Cells.lit rfl rfl ?_
 conv=>whnf
 refine CallQ.o V.bool (by rfl) h (fun r h=>Uc h) (fun r1 h=> ?_)
 conv=>whnf
 refine Br.ob h (fun p2 h=> ?_) (fun p2 h=> ?_)
 ·conv=>whnf
  refine Br.yes ?_
  conv=>whnf
  refine Br.yes ?_
  conv=>whnf
  refine Cells.lit rfl rfl ?_
  conv=>whnf
  refine Br.yes ?_
  conv=>whnf
  refine Len.map ?_
  conv=>whnf
  refine Br.yes ?_
  conv=>whnf
  refine Ask.o h fun p3 h=> ?_
  conv=>whnf
  refine Br.yes ?_
  conv=>whnf
  refine CallQ.o V.bool (by rfl) h (fun r h=>Ib h) (fun r4 h=> ?_)
  conv=>whnf
  refine Br.yes ?_
  conv=>whnf
  cases h;exact (by rfl)
 conv=>whnf
 refine Br.no ?_
 conv=>whnf
 refine Br.no ?_
 conv=>whnf
 refine Br.no ?_
 conv=>whnf
 refine Br.no ?_
 conv=>whnf
 refine Br.no ?_
 conv=>whnf
 refine Br.no ?_
 conv=>whnf
 cases h;exact (by rfl)
noncomputable def Cf (c0:Sl1Cur) (a0:SAlgebra):Option (Int×Sl1Cur):=
 if a0.Size<(1:Int) then
 (Bc (c0) ([(-1:Int),a0.Size])).bind fun (r2,u3)=>
 some (r2,u3)
 else
 (Bz (c0) ((24:Int))).bind fun (r4,u5)=>
 if (r4)=true then
 (Bc (u5) ([(-1:Int),a0.Size])).bind fun (r7,u8)=>
 some (r7,u8)
 else
 (A7 (u5) (a0.Size)).bind fun (r9,u10)=>
 some (r9,u10)
theorem Hc {c0} {a0} {v} (h:Cf c0 a0=some v):Se Try.prog Dq [(rP true (Aj false)) c0,(Af false) a0] (Ae v.1) 0 (rP true (Aj false) v.2):=by
 refine Q9 Zw (Nat.le_of_ble_eq_true rfl) ?_
 unfold Cf at h
 conv=>whnf
 refine Cells.lit rfl rfl ?_
 conv=>whnf
 refine Br.od h (fun p1 h=> ?_) (fun p1 h=> ?_)
 ·conv=>whnf
  refine Br.yes ?_
  conv=>whnf
  refine Br.yes ?_
  conv=>whnf
  refine Br.yes ?_
  conv=>whnf
  refine Cells.lit rfl rfl ?_
  conv=>whnf
  refine BslQ.o Ae ([(-1:Int),a0.Size]) (by exact fun _=>⟨rfl,rfl⟩) (by rfl) ?_
  conv=>whnf
  refine CallQ.io Ae (rP true (Aj false)) (by rfl) rfl (fun _=>rfl) (fun _=>⟨rfl,rfl⟩) rfl h (fun r h=>Bj h) (fun r2 u3 h=> ?_)
  conv=>whnf
  cases h;exact ⟨(by rfl),(by rfl)⟩
 conv=>whnf
 refine Br.no ?_
 conv=>whnf
 refine CallQ.io V.bool (rP true (Aj false)) (by rfl) rfl (fun _=>rfl) (fun _=>⟨rfl,rfl⟩) rfl h (fun r h=>Et h) (fun r4 u5 h=> ?_)
 conv=>whnf
 refine Br.no ?_
 conv=>whnf
 refine Br.ob h (fun p6 h=> ?_) (fun p6 h=> ?_)
 ·conv=>whnf
  refine Cells.lit rfl rfl ?_
  conv=>whnf
  refine BslQ.o Ae ([(-1:Int),a0.Size]) (by exact fun _=>⟨rfl,rfl⟩) (by rfl) ?_
  conv=>whnf
  refine CallQ.io Ae (rP true (Aj false)) (by rfl) rfl (fun _=>rfl) (fun _=>⟨rfl,rfl⟩) rfl h (fun r h=>Bj h) (fun r7 u8 h=> ?_)
  conv=>whnf
  cases h;exact ⟨(by rfl),(by rfl)⟩
 conv=>whnf
 refine Cells.lit rfl rfl ?_
 conv=>whnf
 refine CallQ.io Ae (rP true (Aj false)) (by rfl) rfl (fun _=>rfl) (fun _=>⟨rfl,rfl⟩) rfl h (fun r h=>Bf h) (fun r9 u10 h=> ?_)
 conv=>whnf
 cases h;exact ⟨(by rfl),(by rfl)⟩
noncomputable def Kn (a0:SAlgebra) (op0:Int):Option Bool:=
 (Cp (a0)).bind fun r1=>
 if (r1)=true then
 if op0≥(0:Int) then
 some (decide (op0<(↑a0.Ops.length:Int)))
 else
 some false
 else
 some false
theorem Ad0 {a0} {op0} {v} (h:Kn a0 op0=some v):Ret Try.prog Rh [(Af false) a0,Ae op0] (V.bool v):=by
 refine Ba Aqd (Nat.le_of_ble_eq_true rfl) ?_
 unfold Kn at h
 conv=>whnf
 refine Cells.lit rfl rfl ?_
 conv=>whnf
 refine CallQ.o V.bool (by rfl) h (fun r h=>Gb h) (fun r1 h=> ?_)
 conv=>whnf
 refine Br.ob h (fun p2 h=> ?_) (fun p2 h=> ?_)
 ·conv=>whnf
  refine Br.yes ?_
  conv=>whnf
  refine Br.yes ?_
  conv=>whnf
  refine Br.od h (fun p3 h=> ?_) (fun p3 h=> ?_)
  ·conv=>whnf
   refine Br.yes ?_
   conv=>whnf
   refine Br.yes ?_
   conv=>whnf
   refine Cells.lit rfl rfl ?_
   conv=>whnf
   refine Br.yes ?_
   conv=>whnf
   refine Len.map ?_
   conv=>whnf
   refine Br.yes ?_
   conv=>whnf
   refine Br.yes ?_
   conv=>whnf
   cases h;exact (by rfl)
  conv=>whnf
  refine Br.no ?_
  conv=>whnf
  refine Br.no ?_
  conv=>whnf
  refine Br.no ?_
  conv=>whnf
  refine Br.no ?_
  conv=>whnf
  refine Br.no ?_
  conv=>whnf
  cases h;exact (by rfl)
 conv=>whnf
 refine Br.no ?_
 conv=>whnf
 refine Br.no ?_
 conv=>whnf
 refine Br.no ?_
 conv=>whnf
 refine Br.no ?_
 conv=>whnf
 refine Br.no ?_
 conv=>whnf
 refine Br.no ?_
 conv=>whnf
 refine Br.no ?_
 conv=>whnf
 refine Br.no ?_
 conv=>whnf
 cases h;exact (by rfl)
noncomputable def Dn (n0:Int) (k0:Int) (list0:List (List Int)):Int→Option (Int ⊕ (Unit ⊕ Unit)):=fun x7=>
 if x7<(↑list0.length:Int) then
 ask ((0:Int)≤x7∧x7<(↑list0.length:Int)) <|
 (J7 (n0) (k0) (nth list0 x7.toNat)).bind fun r3=>
 if (r3)=true then
 ask (InI (x7+(1:Int))) <|
 some (.inl (x7+(1:Int)))
 else
 some (.inr (.inl ()))
 else
 some (.inr (.inr ()))
def Lu (n0:Int) (k0:Int) (list0:List (List Int)):Int→St:=fun s=>[(7,A.val (Ae s)),(0,A.val (Ae n0)),(1,A.val (Ae k0)),(2,A.val (slr false 1 (slr false 1 Ae) list0))]
def Sg (_n0:Int) (k0:Int) (_list0:List (List Int)):(Unit ⊕ Unit)→Tgt
 | (.inl _s)=>(Ex.ret,[6],[(6,A.val (V.bool false))])
 | (.inr _s)=>((Ex.exit 0),[1],[(1,A.val (Ae k0))])
theorem Abn {n0} {k0} {list0} (x7) o (h:Dn n0 k0 list0 x7=some o):vc Try.prog Sf (Co [7,0,1,2] (Lu n0 k0 list0) (Sg n0 k0 list0) o) (Lu n0 k0 list0 x7):=by
 unfold Dn at h
 try dsimp only at h
 conv=>whnf
 refine Len.map ?_
 conv=>whnf
 refine Br.od h (fun p1 h=> ?_) (fun p1 h=> ?_)
 ·conv=>whnf
  refine Len.map ?_
  conv=>whnf
  refine Ask.o h fun p2 h=> ?_
  conv=>whnf
  refine Elem.o (by first | omega | (simp [At] at * <;> omega)) ?_
  conv=>whnf
  refine CallQ.o V.bool (by rfl) h (fun r h=>Ajl h) (fun r3 h=> ?_)
  conv=>whnf
  refine Br.flip ?_
  conv=>whnf
  refine Br.ob h (fun p4 h=> ?_) (fun p4 h=> ?_)
  ·conv=>whnf
   refine Ask.o h fun p5 h=> ?_
   conv=>whnf
   cases h;exact ⟨rfl,rfl⟩
  conv=>whnf
  cases h;exact ⟨rfl,rfl⟩
 conv=>whnf
 cases h;exact ⟨rfl,rfl⟩
noncomputable def Fr (n0:Int) (k0:Int) (list0:(List (List Int))):Option Bool:=
 (Am (Dn n0 k0 list0) (0:Int)).bind fun t=>match t with
 | (.inl _)=>(some false)
 | (.inr _)=>((Ec k0 ((1:Int)) ((64:Int))).bind fun r7=>
 some r7)
theorem P6 {n0} {k0} {list0} {v} (h:Fr n0 k0 list0=some v):Ret Try.prog Is [Ae n0,Ae k0,(slr false 1 (slr false 1 Ae)) list0] (V.bool v):=by
 refine Ba Ah1 (Nat.le_of_ble_eq_true rfl) ?_
 unfold Fr at h
 conv=>whnf
 refine LoopQ.o [7,0,1,2] (Lu n0 k0 list0) (Sg n0 k0 list0) h (fun s o h=>Abn s o h) (by rfl) (by rintro (_ | _)<;>rfl) ?_
 rintro (⟨⟩ | ⟨⟩) h
 ·try dsimp only at h
  conv=>whnf
  cases h;exact (by rfl)
 try dsimp only at h
 conv=>whnf
 refine CallQ.o V.bool (by rfl) h (fun r h=>Ib h) (fun r7 h=> ?_)
 conv=>whnf
 cases h;exact (by rfl)
end Go.Proofs.Ytmmcfdfdacpjgaa.Ax
