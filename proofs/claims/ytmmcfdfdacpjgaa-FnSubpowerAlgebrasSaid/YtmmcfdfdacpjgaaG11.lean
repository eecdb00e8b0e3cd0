/-
 What the functions compute, as functions on plain data, and that the program does compute it; written by program.
-/
import Derived.Test.YtmmcfdfdacpjgaaCode
import Derived.Test.YtmmcfdfdacpjgaaG2
import Derived.Test.YtmmcfdfdacpjgaaG3
import Derived.Test.YtmmcfdfdacpjgaaG4
import Derived.Test.YtmmcfdfdacpjgaaG5
import Derived.Test.YtmmcfdfdacpjgaaG8
import Derived.Test.YtmmcfdfdacpjgaaG10
namespace Go.Proofs.Ytmmcfdfdacpjgaa.Ax
open Go
set_option maxRecDepth 100000
set_option maxHeartbeats 4000000
noncomputable def Kf (a0:SAlgebra) (op0:Int) (tuples0:(List (List Int))):Option ((List Int)×Bool):=
 (((Gs (a0) (op0)).bind fun r1=>
 if (r1)=true then
 ask ((0:Int)≤op0∧op0<(↑a0.Ops.length:Int)) <|
 if (nth a0.Ops op0.toNat).Arity=(0:Int) then
 some (.inl ())
 else
 ask ((0:Int)≤op0∧op0<(↑a0.Ops.length:Int)) <|
 if (↑tuples0.length:Int)≠(nth a0.Ops op0.toNat).Arity then
 some (.inl ())
 else
 ask ((0:Int)≤(0:Int)∧(0:Int)<(↑tuples0.length:Int)) <|
 (Fr (a0.Size) ((↑(nth tuples0 (Int.toNat (0:Int))).length:Int)) (tuples0)).bind fun r8=>
 if (r8)=true then
 some (.inr ())
 else
 some (.inl ())
 else
 some (.inl ()):Option (Unit ⊕ Unit))).bind fun t=>match t with
 | (.inl _)=>(some (Ar Int,false))
 | (.inr _)=>(ask ((0:Int)≤(0:Int)∧(0:Int)<(↑tuples0.length:Int)) <|
 (D5 (a0) (op0) (tuples0) ((↑(nth tuples0 (Int.toNat (0:Int))).length:Int))).bind fun r12=>
 some (r12,true))
theorem Aj7 {a0} {op0} {tuples0} {v} (h:Kf a0 op0 tuples0=some v):Ret Try.prog Sb [(Af false) a0,Ae op0,(slr false 1 (slr false 1 Ae)) tuples0] ((fun r=>V.tup [(slr true 1 Ae) r.1,V.bool r.2]) v):=by
 refine Ba Aj8 (Nat.le_of_ble_eq_true rfl) ?_
 unfold Kf at h
 conv=>whnf
 refine CutQ.o (fun t:(Unit ⊕ Unit)=>match t with | (.inl s)=>(Ex.ret,[7,6],[(7,A.val (V.bool (false))),(6,A.val ((slr true 1 Ae) (Ar Int)))]) | (.inr s)=>(Ex.normal,[3,1,2],[(3,A.val ((rP true (Af false)) (a0))),(1,A.val (Ae (op0))),(2,A.val ((slr false 1 (slr false 1 Ae)) (tuples0)))])) h ?_ ?_
 ·intro t h
  conv=>whnf
  refine Cells.lit rfl rfl ?_
  conv=>whnf
  refine CallP.o V.bool (by rfl) h (fun r h=>Zd h) (fun r1 h=> ?_)
  conv=>whnf
  refine Br.flip ?_
  conv=>whnf
  refine Br.ob h (fun p2 h=> ?_) (fun p2 h=> ?_)
  ·conv=>whnf
   refine Br.no ?_
   conv=>whnf
   refine Cells.lit rfl rfl ?_
   conv=>whnf
   refine Br.no ?_
   conv=>whnf
   refine Br.no ?_
   conv=>whnf
   refine Len.map ?_
   conv=>whnf
   refine Ask.o h fun p3 h=> ?_
   conv=>whnf
   refine Elem.o (by first | omega | (simp [At] at * <;> omega)) ?_
   conv=>whnf
   refine Br.no ?_
   conv=>whnf
   refine Br.no ?_
   conv=>whnf
   refine Br.no ?_
   conv=>whnf
   refine Br.no ?_
   conv=>whnf
   refine Br.oe h (fun p4 h=> ?_) (fun p4 h=> ?_)
   ·conv=>whnf
    refine Br.yes ?_
    conv=>whnf
    refine Br.yes ?_
    conv=>whnf
    refine Br.yes ?_
    conv=>whnf
    refine Br.yes ?_
    conv=>whnf
    refine Br.yes ?_
    conv=>whnf
    refine Br.yes ?_
    conv=>whnf
    refine Br.yes ?_
    conv=>whnf
    refine Br.yes ?_
    conv=>whnf
    refine Br.yes ?_
    conv=>whnf
    refine Br.yes ?_
    conv=>whnf
    refine Br.yes ?_
    conv=>whnf
    refine Br.yes ?_
    conv=>whnf
    refine Br.yes ?_
    conv=>whnf
    refine Br.yes ?_
    conv=>whnf
    refine Br.yes ?_
    conv=>whnf
    refine Br.yes ?_
    conv=>whnf
    refine Br.yes ?_
    conv=>whnf
    refine Br.yes ?_
    conv=>whnf
    refine Br.yes ?_
    conv=>whnf
    refine Br.yes ?_
    conv=>whnf
    refine BslQ.o Ae (Ar Int) (by exact fun _=>⟨rfl,rfl⟩) (by rfl) ?_
    conv=>whnf
    cases h;exact ⟨rfl,rfl⟩
   conv=>whnf
   refine Br.no ?_
   conv=>whnf
   refine Len.map ?_
   conv=>whnf
   refine Br.no ?_
   conv=>whnf
   refine Br.no ?_
   conv=>whnf
   refine Cells.lit rfl rfl ?_
   conv=>whnf
   refine Br.no ?_
   conv=>whnf
   refine Br.no ?_
   conv=>whnf
   refine Len.map ?_
   conv=>whnf
   refine Ask.o h fun p5 h=> ?_
   conv=>whnf
   refine Elem.o (by first | omega | (simp [At] at * <;> omega)) ?_
   conv=>whnf
   refine Br.no ?_
   conv=>whnf
   refine Br.no ?_
   conv=>whnf
   refine Br.no ?_
   conv=>whnf
   refine Br.no ?_
   conv=>whnf
   refine Br.on h (fun p6 h=> ?_) (fun p6 h=> ?_)
   ·conv=>whnf
    refine Br.yes ?_
    conv=>whnf
    refine Br.yes ?_
    conv=>whnf
    refine Br.yes ?_
    conv=>whnf
    refine Br.yes ?_
    conv=>whnf
    refine Br.yes ?_
    conv=>whnf
    refine Br.yes ?_
    conv=>whnf
    refine Br.yes ?_
    conv=>whnf
    refine Br.yes ?_
    conv=>whnf
    refine Br.yes ?_
    conv=>whnf
    refine Br.yes ?_
    conv=>whnf
    refine BslQ.o Ae (Ar Int) (by exact fun _=>⟨rfl,rfl⟩) (by rfl) ?_
    conv=>whnf
    cases h;exact ⟨rfl,rfl⟩
   conv=>whnf
   refine Br.no ?_
   conv=>whnf
   refine Cells.lit rfl rfl ?_
   conv=>whnf
   refine Br.no ?_
   conv=>whnf
   refine Br.no ?_
   conv=>whnf
   refine Len.map ?_
   conv=>whnf
   refine Ask.o h fun p7 h=> ?_
   conv=>whnf
   refine Elem.o (by first | omega | (simp [At] at * <;> omega)) ?_
   conv=>whnf
   refine Br.no ?_
   conv=>whnf
   refine Br.no ?_
   conv=>whnf
   refine Len.map ?_
   conv=>whnf
   refine Br.no ?_
   conv=>whnf
   refine Br.no ?_
   conv=>whnf
   refine CallQ.o V.bool (by rfl) h (fun r h=>P6 h) (fun r8 h=> ?_)
   conv=>whnf
   refine Br.no ?_
   conv=>whnf
   refine Br.no ?_
   conv=>whnf
   refine Br.flip ?_
   conv=>whnf
   refine Br.ob h (fun p9 h=> ?_) (fun p9 h=> ?_)
   ·conv=>whnf
    cases h;exact ⟨rfl,rfl⟩
   conv=>whnf
   refine BslQ.o Ae (Ar Int) (by exact fun _=>⟨rfl,rfl⟩) (by rfl) ?_
   conv=>whnf
   cases h;exact ⟨rfl,rfl⟩
  conv=>whnf
  refine Br.yes ?_
  conv=>whnf
  refine Br.yes ?_
  conv=>whnf
  refine Br.yes ?_
  conv=>whnf
  refine Br.yes ?_
  conv=>whnf
  refine Br.yes ?_
  conv=>whnf
  refine Br.yes ?_
  conv=>whnf
  refine Br.yes ?_
  conv=>whnf
  refine Br.yes ?_
  conv=>whnf
  refine Br.yes ?_
  conv=>whnf
  refine Br.yes ?_
  conv=>whnf
  refine Br.yes ?_
  conv=>whnf
  refine Br.yes ?_
  conv=>whnf
  refine Br.yes ?_
  conv=>whnf
  refine Br.yes ?_
  conv=>whnf
  refine Br.yes ?_
  conv=>whnf
  refine Br.yes ?_
  conv=>whnf
  refine Br.yes ?_
  conv=>whnf
  refine Br.yes ?_
  conv=>whnf
  refine Br.yes ?_
  conv=>whnf
  refine Br.yes ?_
  conv=>whnf
  refine Br.yes ?_
  conv=>whnf
  refine Br.yes ?_
  conv=>whnf
  refine Br.yes ?_
  conv=>whnf
  refine Br.yes ?_
  conv=>whnf
  refine Br.yes ?_
  conv=>whnf
  refine Br.yes ?_
  conv=>whnf
  refine Br.yes ?_
  conv=>whnf
  refine Br.yes ?_
  conv=>whnf
  refine BslQ.o Ae (Ar Int) (by exact fun _=>⟨rfl,rfl⟩) (by rfl) ?_
  conv=>whnf
  cases h;exact ⟨rfl,rfl⟩
 rintro (⟨⟩ | ⟨⟩) h
 ·try dsimp only at h
  conv=>whnf
  cases h;exact (by rfl)
 try dsimp only at h
 conv=>whnf
 refine Cells.lit rfl rfl ?_
 conv=>whnf
 refine Len.map ?_
 conv=>whnf
 refine Ask.o h fun p11 h=> ?_
 conv=>whnf
 refine Elem.o (by first | omega | (simp [At] at * <;> omega)) ?_
 conv=>whnf
 refine Len.map ?_
 conv=>whnf
 refine CallQ.o (slr true 1 Ae) (by rfl) h (fun r h=>Ka h) (fun r12 h=> ?_)
 conv=>whnf
 cases h;exact (by rfl)
noncomputable def J1 (a0:SAlgebra) (op0:Int) (args0:(List Int)):Option (Int×Bool):=
 (((Kn (a0) (op0)).bind fun r1=>
 if (r1)=true then
 ask ((0:Int)≤op0∧op0<(↑a0.Ops.length:Int)) <|
 if (↑args0.length:Int)≠(nth a0.Ops op0.toNat).Arity then
 some (.inl ())
 else
 (F9 (args0) (a0.Size)).bind fun r5=>
 if (r5)=true then
 some (.inr ())
 else
 some (.inl ())
 else
 some (.inl ()):Option (Unit ⊕ Unit))).bind fun t=>match t with
 | (.inl _)=>(some ((0:Int),false))
 | (.inr _)=>(ask ((0:Int)≤op0∧op0<(↑a0.Ops.length:Int)) <|
 (Kb (args0) (a0.Size)).bind fun r9=>
 ask ((0:Int)≤r9∧r9<(↑(nth a0.Ops op0.toNat).Table.length:Int)) <|
 some (nth (nth a0.Ops op0.toNat).Table r9.toNat,true))
theorem Ak6 {a0} {op0} {args0} {v} (h:J1 a0 op0 args0=some v):Ret Try.prog R1 [(Af false) a0,Ae op0,(slr false 1 Ae) args0] ((fun r=>V.tup [Ae r.1,V.bool r.2]) v):=by
 refine Ba Aip (Nat.le_of_ble_eq_true rfl) ?_
 unfold J1 at h
 conv=>whnf
 refine CutQ.o (fun t:(Unit ⊕ Unit)=>match t with | (.inl s)=>(Ex.ret,[7,6],[(7,A.val (V.bool (false))),(6,A.val (Ae ((0:Int))))]) | (.inr s)=>(Ex.normal,[3,1,2],[(3,A.val ((rP true (Af false)) (a0))),(1,A.val (Ae (op0))),(2,A.val ((slr false 1 Ae) (args0)))])) h ?_ ?_
 ·intro t h
  conv=>whnf
  refine Cells.lit rfl rfl ?_
  conv=>whnf
  refine CallQ.o V.bool (by rfl) h (fun r h=>Ad0 h) (fun r1 h=> ?_)
  conv=>whnf
  refine Br.flip ?_
  conv=>whnf
  refine Br.ob h (fun p2 h=> ?_) (fun p2 h=> ?_)
  ·conv=>whnf
   refine Br.no ?_
   conv=>whnf
   refine Len.map ?_
   conv=>whnf
   refine Br.no ?_
   conv=>whnf
   refine Br.no ?_
   conv=>whnf
   refine Cells.lit rfl rfl ?_
   conv=>whnf
   refine Br.no ?_
   conv=>whnf
   refine Br.no ?_
   conv=>whnf
   refine Len.map ?_
   conv=>whnf
   refine Ask.o h fun p3 h=> ?_
   conv=>whnf
   refine Elem.o (by first | omega | (simp [At] at * <;> omega)) ?_
   conv=>whnf
   refine Br.no ?_
   conv=>whnf
   refine Br.no ?_
   conv=>whnf
   refine Br.no ?_
   conv=>whnf
   refine Br.no ?_
   conv=>whnf
   refine Br.on h (fun p4 h=> ?_) (fun p4 h=> ?_)
   ·conv=>whnf
    refine Br.yes ?_
    conv=>whnf
    refine Br.yes ?_
    conv=>whnf
    refine Br.yes ?_
    conv=>whnf
    refine Br.yes ?_
    conv=>whnf
    refine Br.yes ?_
    conv=>whnf
    refine Br.yes ?_
    conv=>whnf
    cases h;exact ⟨rfl,rfl⟩
   conv=>whnf
   refine Br.no ?_
   conv=>whnf
   refine Br.no ?_
   conv=>whnf
   refine Cells.lit rfl rfl ?_
   conv=>whnf
   refine Br.no ?_
   conv=>whnf
   refine CallQ.o V.bool (by rfl) h (fun r h=>Pg h) (fun r5 h=> ?_)
   conv=>whnf
   refine Br.no ?_
   conv=>whnf
   refine Br.no ?_
   conv=>whnf
   refine Br.flip ?_
   conv=>whnf
   refine Br.ob h (fun p6 h=> ?_) (fun p6 h=> ?_)
   ·conv=>whnf
    cases h;exact ⟨rfl,rfl⟩
   conv=>whnf
   cases h;exact ⟨rfl,rfl⟩
  conv=>whnf
  refine Br.yes ?_
  conv=>whnf
  refine Br.yes ?_
  conv=>whnf
  refine Br.yes ?_
  conv=>whnf
  refine Br.yes ?_
  conv=>whnf
  refine Br.yes ?_
  conv=>whnf
  refine Br.yes ?_
  conv=>whnf
  refine Br.yes ?_
  conv=>whnf
  refine Br.yes ?_
  conv=>whnf
  refine Br.yes ?_
  conv=>whnf
  refine Br.yes ?_
  conv=>whnf
  refine Br.yes ?_
  conv=>whnf
  refine Br.yes ?_
  conv=>whnf
  refine Br.yes ?_
  conv=>whnf
  refine Br.yes ?_
  conv=>whnf
  refine Br.yes ?_
  conv=>whnf
  refine Br.yes ?_
  conv=>whnf
  cases h;exact ⟨rfl,rfl⟩
 rintro (⟨⟩ | ⟨⟩) h
 ·try dsimp only at h
  conv=>whnf
  cases h;exact (by rfl)
 try dsimp only at h
 conv=>whnf
 refine Cells.lit rfl rfl ?_
 conv=>whnf
 refine Len.map ?_
 conv=>whnf
 refine Ask.o h fun p8 h=> ?_
 conv=>whnf
 refine Elem.o (by first | omega | (simp [At] at * <;> omega)) ?_
 conv=>whnf
 refine Cells.lit rfl rfl ?_
 conv=>whnf
 refine CallP.o Ae (by rfl) h (fun r h=>Ajy h) (fun r9 h=> ?_)
 conv=>whnf
 refine Len.map ?_
 conv=>whnf
 refine Ask.o h fun p10 h=> ?_
 conv=>whnf
 refine Elem.o (by first | omega | (simp [At] at * <;> omega)) ?_
 conv=>whnf
 cases h;exact (by rfl)
noncomputable def Cw (_a0:SAlgebra) (_k0:Int) (tuples0:List (List Int)):Int→Option (Int ⊕ (Unit ⊕ Unit)):=fun x7=>
 if x7<(↑tuples0.length:Int) then
 ask (InI (x7-(1:Int))) <|
 ask ((0:Int)≤x7-(1:Int)∧x7-(1:Int)<(↑tuples0.length:Int)) <|
 ask ((0:Int)≤x7∧x7<(↑tuples0.length:Int)) <|
 (Fu (nth tuples0 (x7-(1:Int)).toNat) (nth tuples0 x7.toNat)).bind fun r10=>
 if r10≥(0:Int) then
 some (.inr (.inl ()))
 else
 ask (InI (x7+(1:Int))) <|
 some (.inl (x7+(1:Int)))
 else
 some (.inr (.inr ()))
def Ke (a0:SAlgebra) (k0:Int) (tuples0:List (List Int)):Int→St:=fun s=>[(7,A.val (Ae s)),(3,A.val (rP true (Af false) a0)),(1,A.val (Ae k0)),(2,A.val (slr false 1 (slr false 1 Ae) tuples0))]
def Py (a0:SAlgebra) (k0:Int) (tuples0:List (List Int)):(Unit ⊕ Unit)→Tgt
 | (.inl _s)=>(Ex.ret,[6],[(6,A.val (V.bool false))])
 | (.inr _s)=>((Ex.exit 0),[3,1,2],[(3,A.val (rP true (Af false) a0)),(1,A.val (Ae k0)),(2,A.val (slr false 1 (slr false 1 Ae) tuples0))])
theorem Zh {a0} {k0} {tuples0} (x7) o (h:Cw a0 k0 tuples0 x7=some o):vc Try.prog Pv (Co [7,3,1,2] (Ke a0 k0 tuples0) (Py a0 k0 tuples0) o) (Ke a0 k0 tuples0 x7):=by
 unfold Cw at h
 try dsimp only at h
 conv=>whnf
 refine Len.map ?_
 conv=>whnf
 refine Br.od h (fun p6 h=> ?_) (fun p6 h=> ?_)
 ·conv=>whnf
  refine Ask.o h fun p7 h=> ?_
  conv=>whnf
  refine Len.map ?_
  conv=>whnf
  refine Ask.o h fun p8 h=> ?_
  conv=>whnf
  refine Elem.o (by first | omega | (simp [At] at * <;> omega)) ?_
  conv=>whnf
  refine Len.map ?_
  conv=>whnf
  refine Ask.o h fun p9 h=> ?_
  conv=>whnf
  refine Elem.o (by first | omega | (simp [At] at * <;> omega)) ?_
  conv=>whnf
  refine CallQ.o Ae (by rfl) h (fun r h=>Aao h) (fun r10 h=> ?_)
  conv=>whnf
  refine Br.od h (fun p11 h=> ?_) (fun p11 h=> ?_)
  ·conv=>whnf
   cases h;exact ⟨rfl,rfl⟩
  conv=>whnf
  refine Ask.o h fun p12 h=> ?_
  conv=>whnf
  cases h;exact ⟨rfl,rfl⟩
 conv=>whnf
 cases h;exact ⟨rfl,rfl⟩
noncomputable def Hf (a0:SAlgebra) (k0:Int) (tuples0:(List (List Int))):Option Bool:=
 (((Db (a0)).bind fun r1=>
 if (↑tuples0.length:Int)>r1 then
 some (.inl ())
 else
 (Gc (a0) (k0) (tuples0)).bind fun r3=>
 if (r3)=true then
 some (.inr ())
 else
 some (.inl ()):Option (Unit ⊕ Unit))).bind fun t=>match t with
 | (.inl _)=>(some false)
 | (.inr _)=>((Am (Cw a0 k0 tuples0) (1:Int)).bind fun t=>match t with
 | (.inl _)=>(some false)
 | (.inr _)=>((K4 (a0) (k0) (tuples0)).bind fun t=>match t with
 | (none,r14_2)=>(if (r14_2)=true then
 none
 else
 some false)
 | ((some r14_1),r14_2)=>(if (r14_2)=true then
 some ((↑r14_1.list.length:Int)==(↑tuples0.length:Int))
 else
 some false)))
theorem Adw {a0} {k0} {tuples0} {v} (h:Hf a0 k0 tuples0=some v):Ret Try.prog M4 [(Af false) a0,Ae k0,(slr false 1 (slr false 1 Ae)) tuples0] (V.bool v):=by
 refine Ba Aen (Nat.le_of_ble_eq_true rfl) ?_
 unfold Hf at h
 conv=>whnf
 refine CutQ.o (fun t:(Unit ⊕ Unit)=>match t with | (.inl s)=>(Ex.ret,[6],[(6,A.val (V.bool (false)))]) | (.inr s)=>(Ex.normal,[3,1,2],[(3,A.val ((rP true (Af false)) (a0))),(1,A.val (Ae (k0))),(2,A.val ((slr false 1 (slr false 1 Ae)) (tuples0)))])) h ?_ ?_
 ·intro t h
  conv=>whnf
  refine Len.map ?_
  conv=>whnf
  refine Cells.lit rfl rfl ?_
  conv=>whnf
  refine CallQ.o Ae (by rfl) h (fun r h=>M2 h) (fun r1 h=> ?_)
  conv=>whnf
  refine Br.od h (fun p2 h=> ?_) (fun p2 h=> ?_)
  ·conv=>whnf
   refine Br.yes ?_
   conv=>whnf
   refine Br.yes ?_
   conv=>whnf
   refine Br.yes ?_
   conv=>whnf
   refine Br.yes ?_
   conv=>whnf
   refine Br.yes ?_
   conv=>whnf
   refine Br.yes ?_
   conv=>whnf
   cases h;exact ⟨rfl,rfl⟩
  conv=>whnf
  refine Cells.lit rfl rfl ?_
  conv=>whnf
  refine Br.no ?_
  conv=>whnf
  refine Br.no ?_
  conv=>whnf
  refine Br.no ?_
  conv=>whnf
  refine CallQ.o V.bool (by rfl) h (fun r h=>Vm h) (fun r3 h=> ?_)
  conv=>whnf
  refine Br.no ?_
  conv=>whnf
  refine Br.no ?_
  conv=>whnf
  refine Br.flip ?_
  conv=>whnf
  refine Br.ob h (fun p4 h=> ?_) (fun p4 h=> ?_)
  ·conv=>whnf
   cases h;exact ⟨rfl,rfl⟩
  conv=>whnf
  cases h;exact ⟨rfl,rfl⟩
 rintro (⟨⟩ | ⟨⟩) h
 ·try dsimp only at h
  conv=>whnf
  cases h;exact (by rfl)
 try dsimp only at h
 conv=>whnf
 refine LoopQ.o [7,3,1,2] (Ke a0 k0 tuples0) (Py a0 k0 tuples0) h (fun s o h=>Zh s o h) (by rfl) (by rintro (_ | _)<;>rfl) ?_
 rintro (⟨⟩ | ⟨⟩) h
 ·try dsimp only at h
  conv=>whnf
  cases h;exact (by rfl)
 try dsimp only at h
 conv=>whnf
 refine Cells.lit rfl rfl ?_
 conv=>whnf
 refine CallQ.o (fun r=>V.tup [(rO false (Kp false)) r.1,V.bool r.2]) (by rfl) h (fun r h=>Amu h) (fun r14 h=> ?_)
 rcases r14 with ⟨(_ | r14_1),r14_2⟩
 ·try dsimp only at h
  conv=>whnf
  refine Br.ob h (fun p15 h=> ?_) (fun p15 h=> ?_)
  ·conv=>whnf
   refine Br.yes ?_
   conv=>whnf
   cases h
  conv=>whnf
  refine Br.no ?_
  conv=>whnf
  refine Br.no ?_
  conv=>whnf
  refine Br.no ?_
  conv=>whnf
  refine Br.no ?_
  conv=>whnf
  refine Br.no ?_
  conv=>whnf
  refine Br.no ?_
  conv=>whnf
  refine Br.no ?_
  conv=>whnf
  refine Br.no ?_
  conv=>whnf
  cases h;exact (by rfl)
 try dsimp only at h
 conv=>whnf
 refine Br.ob h (fun p16 h=> ?_) (fun p16 h=> ?_)
 ·conv=>whnf
  refine Br.yes ?_
  conv=>whnf
  refine Br.yes ?_
  conv=>whnf
  refine Br.yes ?_
  conv=>whnf
  refine Br.yes ?_
  conv=>whnf
  refine Len.map ?_
  conv=>whnf
  refine Br.yes ?_
  conv=>whnf
  refine Br.yes ?_
  conv=>whnf
  refine Len.map ?_
  conv=>whnf
  refine Br.yes ?_
  conv=>whnf
  refine Br.yes ?_
  conv=>whnf
  cases h;exact (by rfl)
 conv=>whnf
 refine Br.no ?_
 conv=>whnf
 refine Br.no ?_
 conv=>whnf
 refine Br.no ?_
 conv=>whnf
 refine Br.no ?_
 conv=>whnf
 refine Br.no ?_
 conv=>whnf
 refine Br.no ?_
 conv=>whnf
 refine Br.no ?_
 conv=>whnf
 refine Br.no ?_
 conv=>whnf
 cases h;exact (by rfl)
noncomputable def Gd (_a0:SAlgebra) (_k0:Int) (tuples0:List (List Int)):Int→Option (Int ⊕ (Unit ⊕ Unit)):=fun x7=>
 if x7<(↑tuples0.length:Int) then
 ask (InI (x7-(1:Int))) <|
 ask ((0:Int)≤x7-(1:Int)∧x7-(1:Int)<(↑tuples0.length:Int)) <|
 ask ((0:Int)≤x7∧x7<(↑tuples0.length:Int)) <|
 (I3 (nth tuples0 (x7-(1:Int)).toNat) (nth tuples0 x7.toNat)).bind fun r10=>
 if (r10)=true then
 ask (InI (x7+(1:Int))) <|
 some (.inl (x7+(1:Int)))
 else
 some (.inr (.inl ()))
 else
 some (.inr (.inr ()))
def Rq (a0:SAlgebra) (k0:Int) (tuples0:List (List Int)):Int→St:=fun s=>[(7,A.val (Ae s)),(3,A.val (rP true (Af false) a0)),(1,A.val (Ae k0)),(2,A.val (slr false 1 (slr false 1 Ae) tuples0))]
def Y9 (a0:SAlgebra) (k0:Int) (tuples0:List (List Int)):(Unit ⊕ Unit)→Tgt
 | (.inl _s)=>(Ex.ret,[6],[(6,A.val (V.bool false))])
 | (.inr _s)=>((Ex.exit 0),[3,1,2],[(3,A.val (rP true (Af false) a0)),(1,A.val (Ae k0)),(2,A.val (slr false 1 (slr false 1 Ae) tuples0))])
theorem Aiw {a0} {k0} {tuples0} (x7) o (h:Gd a0 k0 tuples0 x7=some o):vc Try.prog Z3 (Co [7,3,1,2] (Rq a0 k0 tuples0) (Y9 a0 k0 tuples0) o) (Rq a0 k0 tuples0 x7):=by
 unfold Gd at h
 try dsimp only at h
 conv=>whnf
 refine Len.map ?_
 conv=>whnf
 refine Br.od h (fun p6 h=> ?_) (fun p6 h=> ?_)
 ·conv=>whnf
  refine Ask.o h fun p7 h=> ?_
  conv=>whnf
  refine Len.map ?_
  conv=>whnf
  refine Ask.o h fun p8 h=> ?_
  conv=>whnf
  refine Elem.o (by first | omega | (simp [At] at * <;> omega)) ?_
  conv=>whnf
  refine Len.map ?_
  conv=>whnf
  refine Ask.o h fun p9 h=> ?_
  conv=>whnf
  refine Elem.o (by first | omega | (simp [At] at * <;> omega)) ?_
  conv=>whnf
  refine CallQ.o V.bool (by rfl) h (fun r h=>Aav h) (fun r10 h=> ?_)
  conv=>whnf
  refine Br.flip ?_
  conv=>whnf
  refine Br.ob h (fun p11 h=> ?_) (fun p11 h=> ?_)
  ·conv=>whnf
   refine Ask.o h fun p12 h=> ?_
   conv=>whnf
   cases h;exact ⟨rfl,rfl⟩
  conv=>whnf
  cases h;exact ⟨rfl,rfl⟩
 conv=>whnf
 cases h;exact ⟨rfl,rfl⟩
noncomputable def Di (a0:SAlgebra) (k0:Int) (tuples0:List (List Int)) (x8:Int):(Bool×(List Int))→Option ((Bool×(List Int)) ⊕ (Unit ⊕ Unit)):=fun (x10,x9)=>
 if (x10)=true then
 (G1 (tuples0) (x9)).bind fun r21=>
 (D5 (a0) (x8) (r21) (k0)).bind fun r22=>
 (C1 (tuples0) (r22)).bind fun r23=>
 if (r23.snd)=true then
 (Dj (x9) ((↑tuples0.length:Int))).bind fun r25=>
 some (.inl (r25.snd,r25.fst))
 else
 some (.inr (.inl ()))
 else
 some (.inr (.inr ()))
def Sr (a0:SAlgebra) (k0:Int) (tuples0:List (List Int)) (x8:Int):(Bool×(List Int))→St:=fun s=>[(10,A.val (V.bool s.1)),(9,A.val (slr true 1 Ae s.2)),(8,A.val (Ae x8)),(3,A.val (rP true (Af false) a0)),(1,A.val (Ae k0)),(2,A.val (slr false 1 (slr false 1 Ae) tuples0))]
def Y0 (a0:SAlgebra) (k0:Int) (tuples0:List (List Int)) (x8:Int):(Unit ⊕ Unit)→Tgt
 | (.inl _s)=>(Ex.ret,[6],[(6,A.val (V.bool false))])
 | (.inr _s)=>((Ex.exit 4),[8,3,1,2],[(8,A.val (Ae x8)),(3,A.val (rP true (Af false) a0)),(1,A.val (Ae k0)),(2,A.val (slr false 1 (slr false 1 Ae) tuples0))])
theorem Ak5 {a0} {k0} {tuples0} {x8} (s) o (h:Di a0 k0 tuples0 x8 s=some o):vc Try.prog Zi (Co [10,9,8,3,1,2] (Sr a0 k0 tuples0 x8) (Y0 a0 k0 tuples0 x8) o) (Sr a0 k0 tuples0 x8 s):=by
 obtain ⟨x10,x9⟩:=s
 unfold Di at h
 try dsimp only at h
 conv=>whnf
 refine Br.ob h (fun p20 h=> ?_) (fun p20 h=> ?_)
 ·conv=>whnf
  refine FrzQ.d (V.sl false (1:Nat) (List.map Ae x9)) (by first | (simp only [slr];done) | exact (Al _).trans (Eq.trans (b:=V.fz (V.sl true (1:Nat) (List.map Ae x9))) rfl (Ac _ _ _)) | (simp [Al,V.fz,Ab,Ac,slr];done) | (simp [Al,V.fz,fzL,Ab,slr];done)) ?_
  conv=>whnf
  refine Cells.lit rfl rfl ?_
  conv=>whnf
  refine CallP.o (slr true 1 (slr false 1 Ae)) (by rfl) h (fun r h=>Xv h) (fun r21 h=> ?_)
  conv=>whnf
  refine CallP.rd (slr true 1 Ae) (by first | rfl | simp only [V.fz,fzL,V.up,Ab,Ad,slr] | simp [Aa,V.fz,fzL,V.up,upL,Ab,Ac,Ad,slr]) (fun _=>by simp [V.noFz,Ch]) h (fun r h=>Ka h) (fun r22 h=> ?_)
  conv=>whnf
  refine CallP.rd (fun r=>V.tup [Ae r.1,V.bool r.2]) (by first | rfl | simp only [V.fz,V.up,Ab,slr] | simp [Aa,V.fz,fzL,V.up,upL,Ab,Ac,Ad,slr]) (fun _=>by simp [V.noFz,Ce]) h (fun r h=>K6 h) (fun r23 h=> ?_)
  conv=>whnf
  refine Br.flip ?_
  conv=>whnf
  refine Br.ob h (fun p24 h=> ?_) (fun p24 h=> ?_)
  ·conv=>whnf
   refine Len.map ?_
   conv=>whnf
   refine CallQ.o (fun r=>V.tup [(slr true 1 Ae) r.1,V.bool r.2]) (by rfl) h (fun r h=>Aa0 h) (fun r25 h=> ?_)
   conv=>whnf
   cases h;exact ⟨rfl,rfl⟩
  conv=>whnf
  cases h;exact ⟨rfl,rfl⟩
 conv=>whnf
 cases h;exact ⟨rfl,rfl⟩
noncomputable def Gh (a0:SAlgebra) (k0:Int) (tuples0:List (List Int)):Int→Option (Int ⊕ (Unit ⊕ Unit)):=fun x8=>
 if x8<(↑a0.Ops.length:Int) then
 ((ask ((0:Int)≤x8∧x8<(↑a0.Ops.length:Int)) <|
 ask ((0:Int)≤(nth a0.Ops x8.toNat).Arity∧(nth a0.Ops x8.toNat).Arity≤(↑LIM:Int)) <|
 ask ((0:Int)≤x8∧x8<(↑a0.Ops.length:Int)) <|
 if (nth a0.Ops x8.toNat).Arity=(0:Int) then
 some true
 else
 some (decide ((↑tuples0.length:Int)>(0:Int))):Option Bool)).bind fun q19_10=>
 (Am (Di a0 k0 tuples0 x8) (q19_10,List.replicate (nth a0.Ops x8.toNat).Arity.toNat (0:Int))).bind fun t=>match t with
 | (.inl _)=>(some (.inr (.inl ())))
 | (.inr _)=>(ask (InI (x8+(1:Int))) <|
 some (.inl (x8+(1:Int))))
 else
 some (.inr (.inr ()))
def Rs (a0:SAlgebra) (k0:Int) (tuples0:List (List Int)):Int→St:=fun s=>[(8,A.val (Ae s)),(3,A.val (rP true (Af false) a0)),(1,A.val (Ae k0)),(2,A.val (slr false 1 (slr false 1 Ae) tuples0))]
def Zy (_a0:SAlgebra) (_k0:Int) (_tuples0:List (List Int)):(Unit ⊕ Unit)→Tgt
 | (.inl _s)=>(Ex.ret,[6],[(6,A.val (V.bool false))])
 | (.inr _s)=>((Ex.exit 2),[],[])
theorem Ajw {a0} {k0} {tuples0} (x8) o (h:Gh a0 k0 tuples0 x8=some o):vc Try.prog Yt (Co [8,3,1,2] (Rs a0 k0 tuples0) (Zy a0 k0 tuples0) o) (Rs a0 k0 tuples0 x8):=by
 unfold Gh at h
 try dsimp only at h
 conv=>whnf
 refine Cells.lit rfl rfl ?_
 conv=>whnf
 refine Len.map ?_
 conv=>whnf
 refine Br.od h (fun p14 h=> ?_) (fun p14 h=> ?_)
 ·conv=>whnf
  refine CutQ.o (fun t:Bool=>match t with | s=>(Ex.normal,[10,9,8,3,1,2],[(10,A.val (V.bool s)),(9,A.val ((slr true 1 Ae) (List.replicate (nth a0.Ops x8.toNat).Arity.toNat (0:Int)))),(8,A.val (Ae (x8))),(3,A.val ((rP true (Af false)) (a0))),(1,A.val (Ae (k0))),(2,A.val ((slr false 1 (slr false 1 Ae)) (tuples0)))])) h ?_ ?_
  ·intro t h
   conv=>whnf
   refine Cells.lit rfl rfl ?_
   conv=>whnf
   refine Len.map ?_
   conv=>whnf
   refine Ask.o h fun p15 h=> ?_
   conv=>whnf
   refine Elem.o (by first | omega | (simp [At] at * <;> omega)) ?_
   conv=>whnf
   refine Ask.o h fun p16 h=> ?_
   conv=>whnf
   refine MkQ.o Ae ((0:Int)) rfl ?_
   conv=>whnf
   refine Cells.lit rfl rfl ?_
   conv=>whnf
   refine Len.map ?_
   conv=>whnf
   refine Ask.o h fun p17 h=> ?_
   conv=>whnf
   refine Elem.o (by first | omega | (simp [At] at * <;> omega)) ?_
   conv=>whnf
   refine Br.oe h (fun p18 h=> ?_) (fun p18 h=> ?_)
   ·conv=>whnf
    refine Br.yes ?_
    conv=>whnf
    refine Br.yes ?_
    conv=>whnf
    refine Br.yes ?_
    conv=>whnf
    cases h;exact ⟨rfl,rfl⟩
   conv=>whnf
   refine Br.no ?_
   conv=>whnf
   refine Len.map ?_
   conv=>whnf
   refine Br.no ?_
   conv=>whnf
   refine Br.no ?_
   conv=>whnf
   cases h;exact ⟨rfl,rfl⟩
  rintro q19_10 h
  try dsimp only at h
  conv=>whnf
  refine LoopQ.o [10,9,8,3,1,2] (Sr a0 k0 tuples0 x8) (Y0 a0 k0 tuples0 x8) h (fun s o h=>Ak5 s o h) (by rfl) (by rintro (_ | _)<;>rfl) ?_
  rintro (⟨⟩ | ⟨⟩) h
  ·try dsimp only at h
   conv=>whnf
   cases h;exact ⟨rfl,rfl⟩
  try dsimp only at h
  conv=>whnf
  refine Ask.o h fun p27 h=> ?_
  conv=>whnf
  cases h;exact ⟨rfl,rfl⟩
 conv=>whnf
 cases h;exact ⟨rfl,rfl⟩
noncomputable def Pl (a0:SAlgebra) (k0:Int) (tuples0:(List (List Int))):Option Bool:=
 (((F7 (a0)).bind fun r1=>
 if (↑tuples0.length:Int)>r1 then
 some (.inl ())
 else
 (Fr (a0.Size) (k0) (tuples0)).bind fun r3=>
 if (r3)=true then
 some (.inr ())
 else
 some (.inl ()):Option (Unit ⊕ Unit))).bind fun t=>match t with
 | (.inl _)=>(some false)
 | (.inr _)=>((Am (Gd a0 k0 tuples0) (1:Int)).bind fun t=>match t with
 | (.inl _)=>(some false)
 | (.inr _)=>((Am (Gh a0 k0 tuples0) (0:Int)).bind fun t=>match t with
 | (.inl _)=>(some false)
 | (.inr _)=>(some true)))
theorem Ary {a0} {k0} {tuples0} {v} (h:Pl a0 k0 tuples0=some v):Ret Try.prog Y6 [(Af false) a0,Ae k0,(slr false 1 (slr false 1 Ae)) tuples0] (V.bool v):=by
 refine Ba Asq (Nat.le_of_ble_eq_true rfl) ?_
 unfold Pl at h
 conv=>whnf
 refine CutQ.o (fun t:(Unit ⊕ Unit)=>match t with | (.inl s)=>(Ex.ret,[6],[(6,A.val (V.bool (false)))]) | (.inr s)=>(Ex.normal,[3,1,2],[(3,A.val ((rP true (Af false)) (a0))),(1,A.val (Ae (k0))),(2,A.val ((slr false 1 (slr false 1 Ae)) (tuples0)))])) h ?_ ?_
 ·intro t h
  conv=>whnf
  refine Len.map ?_
  conv=>whnf
  refine Cells.lit rfl rfl ?_
  conv=>whnf
  refine CallQ.o Ae (by rfl) h (fun r h=>Aas h) (fun r1 h=> ?_)
  conv=>whnf
  refine Br.od h (fun p2 h=> ?_) (fun p2 h=> ?_)
  ·conv=>whnf
   refine Br.yes ?_
   conv=>whnf
   refine Br.yes ?_
   conv=>whnf
   refine Br.yes ?_
   conv=>whnf
   refine Br.yes ?_
   conv=>whnf
   refine Br.yes ?_
   conv=>whnf
   refine Br.yes ?_
   conv=>whnf
   refine Br.yes ?_
   conv=>whnf
   cases h;exact ⟨rfl,rfl⟩
  conv=>whnf
  refine Br.no ?_
  conv=>whnf
  refine Cells.lit rfl rfl ?_
  conv=>whnf
  refine Br.no ?_
  conv=>whnf
  refine Br.no ?_
  conv=>whnf
  refine Br.no ?_
  conv=>whnf
  refine CallQ.o V.bool (by rfl) h (fun r h=>P6 h) (fun r3 h=> ?_)
  conv=>whnf
  refine Br.no ?_
  conv=>whnf
  refine Br.no ?_
  conv=>whnf
  refine Br.flip ?_
  conv=>whnf
  refine Br.ob h (fun p4 h=> ?_) (fun p4 h=> ?_)
  ·conv=>whnf
   cases h;exact ⟨rfl,rfl⟩
  conv=>whnf
  cases h;exact ⟨rfl,rfl⟩
 rintro (⟨⟩ | ⟨⟩) h
 ·try dsimp only at h
  conv=>whnf
  cases h;exact (by rfl)
 try dsimp only at h
 conv=>whnf
 refine LoopQ.o [7,3,1,2] (Rq a0 k0 tuples0) (Y9 a0 k0 tuples0) h (fun s o h=>Aiw s o h) (by rfl) (by rintro (_ | _)<;>rfl) ?_
 rintro (⟨⟩ | ⟨⟩) h
 ·try dsimp only at h
  conv=>whnf
  cases h;exact (by rfl)
 try dsimp only at h
 conv=>whnf
 refine LoopQ.o [8,3,1,2] (Rs a0 k0 tuples0) (Zy a0 k0 tuples0) h (fun s o h=>Ajw s o h) (by rfl) (by rintro (_ | _)<;>rfl) ?_
 rintro (⟨⟩ | ⟨⟩) h
 ·try dsimp only at h
  conv=>whnf
  cases h;exact (by rfl)
 try dsimp only at h
 conv=>whnf
 cases h;exact (by rfl)
noncomputable def Rb (a0:SAlgebra) (b0:SAlgebra):Option Bool:=
 (Ld (a0) (b0)).bind fun r1=>
 if (r1.snd)=true then
 some r1.fst
 else
 some false
theorem Aoo {a0} {b0} {v} (h:Rb a0 b0=some v):Ret Try.prog W4 [(Af false) a0,(Af false) b0] (V.bool v):=by
 refine Ba Apr (Nat.le_of_ble_eq_true rfl) ?_
 unfold Rb at h
 conv=>whnf
 refine Cells.lit rfl rfl ?_
 conv=>whnf
 refine Cells.lit rfl rfl ?_
 conv=>whnf
 refine CallQ.o (fun r=>V.tup [V.bool r.1,V.bool r.2]) (by rfl) h (fun r h=>Ahz h) (fun r1 h=> ?_)
 conv=>whnf
 refine Br.ob h (fun p2 h=> ?_) (fun p2 h=> ?_)
 ·conv=>whnf
  refine Br.yes ?_
  conv=>whnf
  cases h;exact (by rfl)
 conv=>whnf
 refine Br.no ?_
 conv=>whnf
 cases h;exact (by rfl)
end Go.Proofs.Ytmmcfdfdacpjgaa.Ax
