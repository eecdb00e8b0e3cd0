/-
 What the functions compute, as functions on plain data, and that the program does compute it; written by program.
-/
import Derived.Test.YtmkgjnphianalaaGreatCode
import Derived.Test.YtmkgjnphianalaaGreatG2
import Derived.Test.YtmkgjnphianalaaGreatG3
import Derived.Test.YtmkgjnphianalaaGreatG4
import Derived.Test.YtmkgjnphianalaaGreatG5
import Derived.Test.YtmkgjnphianalaaGreatG6
namespace Go.Proofs.YtmkgjnphianalaaGreat.Ax
open Go
set_option maxRecDepth 100000
set_option maxHeartbeats 4000000
noncomputable def E9 (_a0:SAlgebra) (in0:List Bool) (_x6:Int) (_x7:Int) (_x5':List Bool) (r5:List Int):(Int×Bool)->Option ((Int×Bool) ⊕ Bool):=λ(x10,x9)=>
 if x10<(↑r5.length:Int) then
 if (x9)=true then
 ask ((0:Int)<=x10/\x10<(↑r5.length:Int)) <|
 ask ((0:Int)<=nth r5 x10.toNat/\nth r5 x10.toNat<(↑in0.length:Int)) <|
 ask (InI (x10+(1:Int))) <|
 some (.inl (x10+(1:Int),nth in0 (nth r5 x10.toNat).toNat))
 else
 ask (InI (x10+(1:Int))) <|
 some (.inl (x10+(1:Int),false))
 else
 some (.inr x9)
def Qm (a0:SAlgebra) (in0:List Bool) (x6:Int) (x7:Int) (x5':List Bool) (r5:List Int):(Int×Bool)->St:=λs=>[(10,A.val (Af s.1)),(9,A.val (V.bool s.2)),(8,A.val ((slr true 1 Af) (r5))),(7,A.val (Af (x7))),(6,A.val (Af (x6))),(5,A.val ((slr true 1 V.bool) (x5'))),(2,A.val ((rP true (Ag false)) (a0))),(1,A.val ((slr false 1 V.bool) (in0)))]
def Aam (a0:SAlgebra) (in0:List Bool) (x6:Int) (x7:Int) (x5':List Bool) (_r5:List Int):Bool->Tgt
 | s=>((Ex.exit 4),[9,7,6,5,2,1],[(9,A.val (V.bool s)),(7,A.val (Af (x7))),(6,A.val (Af (x6))),(5,A.val ((slr true 1 V.bool) (x5'))),(2,A.val ((rP true (Ag false)) (a0))),(1,A.val ((slr false 1 V.bool) (in0)))])
theorem Akm {a0:SAlgebra} {in0:List Bool} {x6:Int} {x7:Int} {x5':List Bool} {r5:List Int} (s:(Int×Bool)) (o:(Int×Bool) ⊕ Bool) (h:E9 a0 in0 x6 x7 x5' r5 s=some o):vc Tryz.prog Z8 (Cd [10,9,8,7,6,5,2,1] (Qm a0 in0 x6 x7 x5' r5) (Aam a0 in0 x6 x7 x5' r5) o) (Qm a0 in0 x6 x7 x5' r5 s):=by
 obtain ⟨x10,x9⟩:=s;unfold E9 at h;try dsimp only at h
 refine Len.map<|Br.od h (λp6 h=> ?_) (λp6 h=> ?_)
 ·refine Br.ob h (λp7 h=> ?_) (λp7 h=> ?_)
  ·refine Br.yes<|Br.yes<|Br.yes<|Len.map<|Ask.o h λp8 h=>Br.yes<|Cells.one (λ_=>⟨rfl,rfl⟩) (by first | omega | (simp [Ap] at * <;> omega))<|Br.yes<|Len.map<|Ask.o h λp9 h=>Elem.o (by first | omega | (simp [Ap] at * <;> omega))<|Br.yes<|Br.yes<|Ask.o h λp10 h=> ?_
   cases h;exact ⟨rfl,rfl⟩
  refine Br.no<|Br.no<|Br.no<|Br.no<|Br.no<|Br.no<|Br.no<|Ask.o h λp11 h=> ?_
  cases h;exact ⟨rfl,rfl⟩
 cases h;exact ⟨rfl,rfl⟩
noncomputable def Gq (a0:SAlgebra) (in0:List Bool) (x6:Int):(Int×(List Bool))->Option ((Int×(List Bool)) ⊕ (List Bool)):=λ(x7,x5')=>
 ask ((0:Int)<=x6/\x6<(↑a0.Ops.length:Int)) <|
 if x7<(↑(nth a0.Ops x6.toNat).Table.length:Int) then
 ask ((0:Int)<=x6/\x6<(↑a0.Ops.length:Int)) <|
 (H9 (a0.Size) ((nth a0.Ops x6.toNat).Arity) (x7)).bind λr5=>
 (Ak (E9 a0 in0 x6 x7 x5' r5) ((0:Int),true)).bind λq12_9=>
 if (q12_9)=true then
 ask ((0:Int)<=x6/\x6<(↑a0.Ops.length:Int)) <|
 ask ((0:Int)<=x7/\x7<(↑(nth a0.Ops x6.toNat).Table.length:Int)) <|
 ask ((0:Int)<=nth (nth a0.Ops x6.toNat).Table x7.toNat/\nth (nth a0.Ops x6.toNat).Table x7.toNat<(↑x5'.length:Int)) <|
 ask (InI (x7+(1:Int))) <|
 some (.inl (x7+(1:Int),x5'.set (nth (nth a0.Ops x6.toNat).Table x7.toNat).toNat true))
 else
 ask (InI (x7+(1:Int))) <|
 some (.inl (x7+(1:Int),x5'))
 else
 some (.inr x5')
def Ql (a0:SAlgebra) (in0:List Bool) (x6:Int):(Int×(List Bool))->St:=λs=>[(7,A.val (Af s.1)),(6,A.val (Af (x6))),(5,A.val ((slr true 1 V.bool) s.2)),(2,A.val ((rP true (Ag false)) (a0))),(1,A.val ((slr false 1 V.bool) (in0)))]
def Zw (a0:SAlgebra) (in0:List Bool) (x6:Int):(List Bool)->Tgt
 | s=>((Ex.exit 2),[6,5,2,1],[(6,A.val (Af (x6))),(5,A.val ((slr true 1 V.bool) s)),(2,A.val ((rP true (Ag false)) (a0))),(1,A.val ((slr false 1 V.bool) (in0)))])
theorem Alc {a0:SAlgebra} {in0:List Bool} {x6:Int} (s:(Int×(List Bool))) (o:(Int×(List Bool)) ⊕ (List Bool)) (h:Gq a0 in0 x6 s=some o):vc Tryz.prog Zf (Cd [7,6,5,2,1] (Ql a0 in0 x6) (Zw a0 in0 x6) o) (Ql a0 in0 x6 s):=by
 obtain ⟨x7,x5'⟩:=s;unfold Gq at h;try dsimp only at h
 refine Cells.lit rfl rfl<|Len.map<|Ask.o h λp2 h=>Elem.o (by first | omega | (simp [Ap] at * <;> omega))<|Len.map<|Br.od h (λp3 h=> ?_) (λp3 h=> ?_)
 ·refine Cells.lit rfl rfl<|Cells.lit rfl rfl<|Len.map<|Ask.o h λp4 h=>Elem.o (by first | omega | (simp [Ap] at * <;> omega))<|CallQ.o (slr true 1 Af) (by rfl) h (λr h=>Afj h) (λr5 h=> ?_)
  refine LoopQ.o [10,9,8,7,6,5,2,1] (Qm a0 in0 x6 x7 x5' r5) (Aam a0 in0 x6 x7 x5' r5) h (λs o h=>Akm s o h) (by rfl) (λ_=>rfl) ?_;rintro q12_9 h;try dsimp only at h
  refine Br.ob h (λp13 h=> ?_) (λp13 h=> ?_)
  ·refine Cells.lit rfl rfl<|Len.map<|Ask.o h λp14 h=>Elem.o (by first | omega | (simp [Ap] at * <;> omega))<|Len.map<|Ask.o h λp15 h=>Elem.o (by first | omega | (simp [Ap] at * <;> omega))<|Len.map<|Ask.o h λp16 h=>SetKids.one (λ_=>⟨rfl,rfl⟩) (true) (by rfl) (by first | omega | (simp [Ap] at * <;> omega))<|Ask.o h λp17 h=> ?_
   cases h;exact ⟨rfl,rfl⟩
  refine Ask.o h λp18 h=> ?_
  cases h;exact ⟨rfl,rfl⟩
 cases h;exact ⟨rfl,rfl⟩
noncomputable def Iz (a0:SAlgebra) (in0:List Bool):(Int×(List Bool))->Option ((Int×(List Bool)) ⊕ (List Bool)):=λ(x6,x5)=>
 if x6<(↑a0.Ops.length:Int) then
 (Ak (Gq a0 in0 x6) ((0:Int),x5)).bind λq19_5=>
 ask (InI (x6+(1:Int))) <|
 some (.inl (x6+(1:Int),q19_5))
 else
 some (.inr x5)
def Re (a0:SAlgebra) (in0:List Bool):(Int×(List Bool))->St:=λs=>[(6,A.val (Af s.1)),(5,A.val ((slr true 1 V.bool) s.2)),(2,A.val ((rP true (Ag false)) (a0))),(1,A.val ((slr false 1 V.bool) (in0)))]
def Zu (_a0:SAlgebra) (_in0:List Bool):(List Bool)->Tgt
 | s=>((Ex.exit 0),[5],[(5,A.val ((slr true 1 V.bool) s))])
theorem Al4 {a0:SAlgebra} {in0:List Bool} (s:(Int×(List Bool))) (o:(Int×(List Bool)) ⊕ (List Bool)) (h:Iz a0 in0 s=some o):vc Tryz.prog Yx (Cd [6,5,2,1] (Re a0 in0) (Zu a0 in0) o) (Re a0 in0 s):=by
 obtain ⟨x6,x5⟩:=s;unfold Iz at h;try dsimp only at h
 refine Cells.lit rfl rfl<|Len.map<|Br.od h (λp1 h=> ?_) (λp1 h=> ?_)
 ·refine LoopQ.o [7,6,5,2,1] (Ql a0 in0 x6) (Zw a0 in0 x6) h (λs o h=>Alc s o h) (by rfl) (λ_=>rfl) ?_;rintro q19_5 h;try dsimp only at h
  refine Ask.o h λp20 h=> ?_
  cases h;exact ⟨rfl,rfl⟩
 cases h;exact ⟨rfl,rfl⟩
noncomputable def Md (a0:SAlgebra) (in0:(List Bool)):Option (List Bool):=
 ask ((Aw Bool).length+(in0).length<=LIM) <|
 (Ak (Iz a0 in0) ((0:Int),Aw Bool++in0)).bind λq21_5=>
 some q21_5
theorem Aun {a0:SAlgebra} {in0:(List Bool)} {v:(List Bool)} (h:Md a0 in0=some v):Ret Tryz.prog Ye [(Ag false) a0,(slr false 1 V.bool) in0] ((slr true 1 V.bool) v):=by
 refine A4 Auf (Nat.le_of_ble_eq_true rfl) ?_;unfold Md at h;refine BslQ.o V.bool (Aw Bool) (by exact λ_=>⟨rfl,rfl⟩) (by first | rfl | (simp only [Aa,V.fz,fzL,V.up,upL,Ab,Ac,Ad,slr,List.cons_append,List.nil_append];done) | simp [Aa,V.fz,fzL,V.up,upL,Ab,Ac,Ad,slr])<|AppQ.o (m:=1) V.bool (by exact λ_=>⟨rfl,rfl⟩) (Aw Bool) (in0) (by rfl) (by rfl) h λh=>LoopQ.o [6,5,2,1] (Re a0 in0) (Zu a0 in0) h (λs o h=>Al4 s o h) (by rfl) (λ_=>rfl) ?_
 rintro q21_5 h;try dsimp only at h
 cases h;exact (by rfl)
noncomputable def Cs (a0:SAlgebra) (b0:SAlgebra) (x17:Int):(Int×Bool×(List Int))->Option ((Int×Bool×(List Int)) ⊕ ((List Int) ⊕ (Bool×(List Int)))):=λ(x25,x7'',x72'')=>
 if x25<(↑(nth a0.Ops x17.toNat).Table.length:Int) then
 ask ((0:Int)<=x25/\x25<(↑(nth a0.Ops x17.toNat).Table.length:Int)) <|
 (Jq (x25) ((nth a0.Ops x17.toNat).Arity) (a0.Size) (x72'')).bind λr6=>
 if (r6)=true then
 ask ((0:Int)<=x17/\x17<(↑b0.Ops.length:Int)) <|
 (Hn (x25) ((nth a0.Ops x17.toNat).Arity) (a0) (b0) (x72'')).bind λr9=>
 ask ((0:Int)<=r9/\r9<(↑(nth b0.Ops x17.toNat).Table.length:Int)) <|
 ask ((0:Int)<=nth (nth a0.Ops x17.toNat).Table x25.toNat/\nth (nth a0.Ops x17.toNat).Table x25.toNat<(↑x72''.length:Int)) <|
 if nth x72'' (nth (nth a0.Ops x17.toNat).Table x25.toNat).toNat<(0:Int) then
 ask ((0:Int)<=nth (nth a0.Ops x17.toNat).Table x25.toNat/\nth (nth a0.Ops x17.toNat).Table x25.toNat<(↑x72''.length:Int)) <|
 ask (InI (x25+(1:Int))) <|
 some (.inl (x25+(1:Int),true,x72''.set (nth (nth a0.Ops x17.toNat).Table x25.toNat).toNat (nth (nth b0.Ops x17.toNat).Table r9.toNat)))
 else
 ask ((0:Int)<=nth (nth a0.Ops x17.toNat).Table x25.toNat/\nth (nth a0.Ops x17.toNat).Table x25.toNat<(↑x72''.length:Int)) <|
 if nth x72'' (nth (nth a0.Ops x17.toNat).Table x25.toNat).toNat≠nth (nth b0.Ops x17.toNat).Table r9.toNat then
 some (.inr (.inl x72''))
 else
 ask (InI (x25+(1:Int))) <|
 some (.inl (x25+(1:Int),x7'',x72''))
 else
 ask (InI (x25+(1:Int))) <|
 some (.inl (x25+(1:Int),x7'',x72''))
 else
 some (.inr (.inr (x7'',x72'')))
def Np (a0:SAlgebra) (b0:SAlgebra) (x17:Int):(Int×Bool×(List Int))->St:=λs=>[(25,A.val (Af s.1)),(24,A.val (Af ((↑(nth a0.Ops x17.toNat).Table.length:Int)))),(23,A.val ((slr false 1 Af) ((nth a0.Ops x17.toNat).Table))),(8,A.val (Af (x17))),(9,A.val ((rP true (Ay false)) (nth a0.Ops x17.toNat))),(17,A.val (Af (x17))),(16,A.val (Af ((↑a0.Ops.length:Int)))),(15,A.val ((slr false 2 (Ay false)) (a0.Ops))),(7,A.val (V.bool s.2.1)),(4,A.val ((rP true (Ag false)) (b0))),(3,A.val ((rP true (Ag false)) (a0))),(2,A.ref 72 []),(72,A.val ((slr true 1 Af) s.2.2))]
def Vj (a0:SAlgebra) (b0:SAlgebra) (x17:Int):((List Int) ⊕ (Bool×(List Int)))->Tgt
 | (.inl s)=>(Ex.ret,[6,72],[(6,A.val (V.bool (false))),(72,A.val ((slr true 1 Af) s))])
 | (.inr s)=>((Ex.exit 4),[17,16,15,7,4,3,2,72],[(17,A.val (Af (x17))),(16,A.val (Af ((↑a0.Ops.length:Int)))),(15,A.val ((slr false 2 (Ay false)) (a0.Ops))),(7,A.val (V.bool s.1)),(4,A.val ((rP true (Ag false)) (b0))),(3,A.val ((rP true (Ag false)) (a0))),(2,A.ref 72 []),(72,A.val ((slr true 1 Af) s.2))])
theorem Ahe {a0:SAlgebra} {b0:SAlgebra} {x17:Int} (s:(Int×Bool×(List Int))) (o:(Int×Bool×(List Int)) ⊕ ((List Int) ⊕ (Bool×(List Int)))) (h:Cs a0 b0 x17 s=some o):vc Tryz.prog V9 (Cd [25,24,23,8,9,17,16,15,7,4,3,2,72] (Np a0 b0 x17) (Vj a0 b0 x17) o) (Np a0 b0 x17 s):=by
 obtain ⟨x25,x7'',x72''⟩:=s;unfold Cs at h;try dsimp only at h
 refine Br.od h (λp4 h=> ?_) (λp4 h=> ?_)
 ·refine Len.map<|Ask.o h λp5 h=>Elem.o (by first | omega | (simp [Ap] at * <;> omega))<|Cells.lit rfl rfl<|Cells.lit rfl rfl<|CallQ.rd V.bool (by first | rfl | simp only [V.fz,V.up,Ab,Ad,slr] | simp [Aa,V.fz,fzL,V.up,upL,Ab,Ac,Ad,slr]) (λ_=>rfl) h (λr h=>Aom h) (λr6 h=> ?_)
  refine Br.flip<|Br.ob h (λp7 h=> ?_) (λp7 h=> ?_)
  ·refine Cells.lit rfl rfl<|Len.map<|Ask.o h λp8 h=>Elem.o (by first | omega | (simp [Ap] at * <;> omega))<|Cells.lit rfl rfl<|Cells.lit rfl rfl<|Cells.lit rfl rfl<|CallP.rd Af (by first | rfl | simp only [V.fz,fzL,V.up,Ab,Ad,slr] | simp [Aa,V.fz,fzL,V.up,upL,Ab,Ac,Ad,slr]) (λ_=>rfl) h (λr h=>Aju h) (λr9 h=> ?_)
   refine Len.map<|Ask.o h λp10 h=>Elem.o (by first | omega | (simp [Ap] at * <;> omega))<|Len.map<|Ask.o h λp11 h=>Cells.one (λ_=>⟨rfl,rfl⟩) (by first | omega | (simp [Ap] at * <;> omega))<|Br.od h (λp12 h=> ?_) (λp12 h=> ?_)
   ·refine Len.map<|Ask.o h λp13 h=>SetKids.one (λ_=>⟨rfl,rfl⟩) (nth (nth b0.Ops x17.toNat).Table r9.toNat) (by rfl) (by first | omega | (simp [Ap] at * <;> omega))<|Ask.o h λp14 h=> ?_
    cases h;exact ⟨rfl,rfl⟩
   refine Len.map<|Ask.o h λp15 h=>Cells.one (λ_=>⟨rfl,rfl⟩) (by first | omega | (simp [Ap] at * <;> omega))<|Br.on h (λp16 h=> ?_) (λp16 h=> ?_)
   ·cases h;exact ⟨rfl,rfl⟩
   refine Ask.o h λp17 h=> ?_
   cases h;exact ⟨rfl,rfl⟩
  refine Ask.o h λp18 h=> ?_
  cases h;exact ⟨rfl,rfl⟩
 cases h;exact ⟨rfl,rfl⟩
noncomputable def Ct (a0:SAlgebra) (b0:SAlgebra):(Int×Bool×(List Int))->Option ((Int×Bool×(List Int)) ⊕ ((List Int) ⊕ (Bool×(List Int)))):=λ(x17,x7',x72')=>
 if x17<(↑a0.Ops.length:Int) then
 ask ((0:Int)<=x17/\x17<(↑a0.Ops.length:Int)) <|
 (Ak (Cs a0 b0 x17) ((0:Int),x7',x72')).bind λt=>match t with
 | (.inl q19_72)=>(some (.inr (.inl q19_72)))
 | (.inr (q19_7,q19_72))=>(ask (InI (x17+(1:Int))) <|
 some (.inl (x17+(1:Int),q19_7,q19_72)))
 else
 some (.inr (.inr (x7',x72')))
def Nu (a0:SAlgebra) (b0:SAlgebra):(Int×Bool×(List Int))->St:=λs=>[(17,A.val (Af s.1)),(16,A.val (Af ((↑a0.Ops.length:Int)))),(15,A.val ((slr false 2 (Ay false)) (a0.Ops))),(7,A.val (V.bool s.2.1)),(4,A.val ((rP true (Ag false)) (b0))),(3,A.val ((rP true (Ag false)) (a0))),(2,A.ref 72 []),(72,A.val ((slr true 1 Af) s.2.2))]
def U3 (a0:SAlgebra) (b0:SAlgebra):((List Int) ⊕ (Bool×(List Int)))->Tgt
 | (.inl s)=>(Ex.ret,[6,72],[(6,A.val (V.bool (false))),(72,A.val ((slr true 1 Af) s))])
 | (.inr s)=>((Ex.exit 2),[7,4,3,2,72],[(7,A.val (V.bool s.1)),(4,A.val ((rP true (Ag false)) (b0))),(3,A.val ((rP true (Ag false)) (a0))),(2,A.ref 72 []),(72,A.val ((slr true 1 Af) s.2))])
theorem Ahc {a0:SAlgebra} {b0:SAlgebra} (s:(Int×Bool×(List Int))) (o:(Int×Bool×(List Int)) ⊕ ((List Int) ⊕ (Bool×(List Int)))) (h:Ct a0 b0 s=some o):vc Tryz.prog Vt (Cd [17,16,15,7,4,3,2,72] (Nu a0 b0) (U3 a0 b0) o) (Nu a0 b0 s):=by
 obtain ⟨x17,x7',x72'⟩:=s;unfold Ct at h;try dsimp only at h
 refine Br.od h (λp2 h=> ?_) (λp2 h=> ?_)
 ·refine Len.map<|Ask.o h λp3 h=>Elem.o (by first | omega | (simp [Ap] at * <;> omega))<|SetKids.lit rfl<|Cells.lit rfl rfl<|Len.map<|LoopQ.o [25,24,23,8,9,17,16,15,7,4,3,2,72] (Np a0 b0 x17) (Vj a0 b0 x17) h (λs o h=>Ahe s o h) (by rfl) (by rintro (_ | _)<;>rfl) ?_
  rintro (q19_72 | ⟨q19_7,q19_72⟩) h
  ·try dsimp only at h
   cases h;exact ⟨rfl,rfl⟩
  try dsimp only at h
  refine Ask.o h λp20 h=> ?_
  cases h;exact ⟨rfl,rfl⟩
 cases h;exact ⟨rfl,rfl⟩
noncomputable def Cu (a0:SAlgebra) (b0:SAlgebra):(Bool×(List Int))->Option ((Bool×(List Int)) ⊕ ((List Int) ⊕ (List Int))):=λ(x7,x72)=>
 if (x7)=true then
 (Ak (Ct a0 b0) ((0:Int),false,x72)).bind λt=>match t with
 | (.inl q21_72)=>(some (.inr (.inl q21_72)))
 | (.inr (q21_7,q21_72))=>(some (.inl (q21_7,q21_72)))
 else
 some (.inr (.inr x72))
def Nd (a0:SAlgebra) (b0:SAlgebra):(Bool×(List Int))->St:=λs=>[(7,A.val (V.bool s.1)),(4,A.val ((rP true (Ag false)) (b0))),(3,A.val ((rP true (Ag false)) (a0))),(2,A.ref 72 []),(72,A.val ((slr true 1 Af) s.2))]
def Wa (_a0:SAlgebra) (_b0:SAlgebra):((List Int) ⊕ (List Int))->Tgt
 | (.inl s)=>(Ex.ret,[6,72],[(6,A.val (V.bool (false))),(72,A.val ((slr true 1 Af) s))])
 | (.inr s)=>((Ex.exit 0),[72],[(72,A.val ((slr true 1 Af) s))])
theorem Afw {a0:SAlgebra} {b0:SAlgebra} (s:(Bool×(List Int))) (o:(Bool×(List Int)) ⊕ ((List Int) ⊕ (List Int))) (h:Cu a0 b0 s=some o):vc Tryz.prog Ws (Cd [7,4,3,2,72] (Nd a0 b0) (Wa a0 b0) o) (Nd a0 b0 s):=by
 obtain ⟨x7,x72⟩:=s;unfold Cu at h;try dsimp only at h
 refine Br.ob h (λp1 h=> ?_) (λp1 h=> ?_)
 ·refine Cells.lit rfl rfl<|Len.map<|LoopQ.o [17,16,15,7,4,3,2,72] (Nu a0 b0) (U3 a0 b0) h (λs o h=>Ahc s o h) (by rfl) (by rintro (_ | _)<;>rfl) ?_
  rintro (q21_72 | ⟨q21_7,q21_72⟩) h
  ·try dsimp only at h
   cases h;exact ⟨rfl,rfl⟩
  try dsimp only at h
  cases h;exact ⟨rfl,rfl⟩
 cases h;exact ⟨rfl,rfl⟩
noncomputable def Hl (a0:SAlgebra) (b0:SAlgebra) (f0:(List Int)):Option (Bool×(List Int)):=
 (Ak (Cu a0 b0) (true,f0)).bind λt=>match t with
 | (.inl q22_72)=>(some (false,q22_72))
 | (.inr q22_72)=>(some (true,q22_72))
theorem Aot {a0:SAlgebra} {b0:SAlgebra} {f0:(List Int)} {v:(Bool×(List Int))} (h:Hl a0 b0 f0=some v):J7 Tryz.prog Ty [(Ag false) a0,(Ag false) b0,(slr true 1 Af) f0] (V.bool v.1) 2 ((slr true 1 Af) v.2):=by
 refine Ij An4 (Nat.le_of_ble_eq_true rfl) ?_;unfold Hl at h;refine LoopQ.o [7,4,3,2,72] (Nd a0 b0) (Wa a0 b0) h (λs o h=>Afw s o h) (by rfl) (by rintro (_ | _)<;>rfl) ?_;rintro (q22_72 | q22_72) h
 ·try dsimp only at h
  cases h;exact ⟨(by rfl),(by rfl)⟩
 try dsimp only at h
 cases h;exact ⟨(by rfl),(by rfl)⟩
noncomputable def Du (a0:SAlgebra):Int->Option (Int ⊕ (Unit ⊕ Unit)):=λx22=>
 if x22<(↑a0.Ops.length:Int) then
 ask ((0:Int)<=x22/\x22<(↑a0.Ops.length:Int)) <|
 (Sk (nth a0.Ops x22.toNat) (a0.Size)).bind λr7=>
 if (r7)=true then
 ask (InI (x22+(1:Int))) <|
 some (.inl (x22+(1:Int)))
 else
 some (.inr (.inl ()))
 else
 some (.inr (.inr ()))
def L9 (a0:SAlgebra):Int->St:=λs=>[(22,A.val (Af s)),(21,A.val (Af ((↑a0.Ops.length:Int)))),(20,A.val ((slr false 2 (Ay false)) (a0.Ops))),(1,A.val ((rP true (Ag false)) (a0)))]
def Uc (_a0:SAlgebra):(Unit ⊕ Unit)->Tgt
 | (.inl _s)=>(Ex.ret,[2],[(2,A.val (V.bool (false)))])
 | (.inr _s)=>((Ex.exit 0),[],[])
theorem Ae3 {a0:SAlgebra} (x22:Int) (o:Int ⊕ (Unit ⊕ Unit)) (h:Du a0 x22=some o):vc Tryz.prog Ub (Cd [22,21,20,1] (L9 a0) (Uc a0) o) (L9 a0 x22):=by
 unfold Du at h;try dsimp only at h
 refine Br.od h (λp5 h=> ?_) (λp5 h=> ?_)
 ·refine Len.map<|Ask.o h λp6 h=>Elem.o (by first | omega | (simp [Ap] at * <;> omega))<|SetKids.lit rfl<|Cells.lit rfl rfl<|Cells.lit rfl rfl<|CallQ.o V.bool (by rfl) h (λr h=>A1w h) (λr7 h=> ?_)
  refine Br.flip<|Br.ob h (λp8 h=> ?_) (λp8 h=> ?_)
  ·refine Ask.o h λp9 h=> ?_
   cases h;exact ⟨rfl,rfl⟩
  cases h;exact ⟨rfl,rfl⟩
 cases h;exact ⟨rfl,rfl⟩
noncomputable def C0 (a0:SAlgebra):Option Bool:=
 ((if a0.Size<(1:Int) then
 some (.inl ())
 else
 if a0.Size>(8:Int) then
 some (.inl ())
 else
 if (↑a0.Ops.length:Int)>(4:Int) then
 some (.inl ())
 else
 some (.inr ()):Option (Unit ⊕ Unit))).bind λt=>match t with
 | (.inl _)=>(some false)
 | (.inr _)=>((Ak (Du a0) (0:Int)).bind λt=>match t with
 | (.inl _)=>(some false)
 | (.inr _)=>(some true))
theorem Gn {a0:SAlgebra} {v:Bool} (h:C0 a0=some v):Ret Tryz.prog Ee [(Ag false) a0] (V.bool v):=by
 refine A4 Alr (Nat.le_of_ble_eq_true rfl) ?_;unfold C0 at h;refine CutQ.o (λt:(Unit ⊕ Unit)=>match t with | (.inl s)=>(Ex.ret,[2],[(2,A.val (V.bool (false)))]) | (.inr s)=>(Ex.normal,[1],[(1,A.val ((rP true (Ag false)) (a0)))])) h ?_ ?_
 ·intro t h;refine Cells.lit rfl rfl<|Br.od h (λp1 h=> ?_) (λp1 h=> ?_)
  ·refine Br.yes<|Br.yes<|Br.yes<|Br.yes<|Br.yes<|Br.yes<|Br.yes<|Br.yes<|Br.yes ?_
   cases h;exact ⟨rfl,rfl⟩
  refine Br.no<|Cells.lit rfl rfl<|Br.no<|Br.no<|Br.od h (λp2 h=> ?_) (λp2 h=> ?_)
  ·refine Br.yes<|Br.yes<|Br.yes<|Br.yes<|Br.yes ?_
   cases h;exact ⟨rfl,rfl⟩
  refine Br.no<|Cells.lit rfl rfl<|Br.no<|Len.map<|Br.no<|Br.no<|Br.od h (λp3 h=> ?_) (λp3 h=> ?_)
  ·cases h;exact ⟨rfl,rfl⟩
  cases h;exact ⟨rfl,rfl⟩
 rintro (⟨⟩ | ⟨⟩) h
 ·try dsimp only at h
  cases h;exact (by rfl)
 try dsimp only at h
 refine Cells.lit rfl rfl<|Len.map<|LoopQ.o [22,21,20,1] (L9 a0) (Uc a0) h (λs o h=>Ae3 s o h) (by rfl) (by rintro (_ | _)<;>rfl) ?_
 rintro (⟨⟩ | ⟨⟩) h
 ·try dsimp only at h
  cases h;exact (by rfl)
 try dsimp only at h
 cases h;exact (by rfl)
noncomputable def Fc (a0:SAlgebra):Int->Option (Int ⊕ (Unit ⊕ Unit)):=λx3=>
 if x3<(↑a0.Ops.length:Int) then
 ask ((0:Int)<=x3/\x3<(↑a0.Ops.length:Int)) <|
 (Rw (a0.Size) (nth a0.Ops x3.toNat)).bind λr7=>
 if (r7)=true then
 ask (InI (x3+(1:Int))) <|
 some (.inl (x3+(1:Int)))
 else
 some (.inr (.inl ()))
 else
 some (.inr (.inr ()))
def Q7 (a0:SAlgebra):Int->St:=λs=>[(3,A.val (Af s)),(1,A.val ((rP true (Ag false)) (a0)))]
def Zq (_a0:SAlgebra):(Unit ⊕ Unit)->Tgt
 | (.inl _s)=>(Ex.ret,[2],[(2,A.val (V.bool (false)))])
 | (.inr _s)=>((Ex.exit 0),[],[])
theorem Al0 {a0:SAlgebra} (x3:Int) (o:Int ⊕ (Unit ⊕ Unit)) (h:Fc a0 x3=some o):vc Tryz.prog Aal (Cd [3,1] (Q7 a0) (Zq a0) o) (Q7 a0 x3):=by
 unfold Fc at h;try dsimp only at h
 refine Cells.lit rfl rfl<|Len.map<|Br.od h (λp5 h=> ?_) (λp5 h=> ?_)
 ·refine Cells.lit rfl rfl<|Cells.lit rfl rfl<|Len.map<|Ask.o h λp6 h=>Elem.o (by first | omega | (simp [Ap] at * <;> omega))<|CallQ.o V.bool (by rfl) h (λr h=>A1z h) (λr7 h=> ?_)
  refine Br.flip<|Br.ob h (λp8 h=> ?_) (λp8 h=> ?_)
  ·refine Ask.o h λp9 h=> ?_
   cases h;exact ⟨rfl,rfl⟩
  cases h;exact ⟨rfl,rfl⟩
 cases h;exact ⟨rfl,rfl⟩
noncomputable def H5 (a0:SAlgebra):Option Bool:=
 (((Ht (a0.Size) ((1:Int)) ((8:Int))).bind λr1=>
 if (r1)=true then
 if (↑a0.Ops.length:Int)>(4:Int) then
 some (.inl ())
 else
 some (.inr ())
 else
 some (.inl ()):Option (Unit ⊕ Unit))).bind λt=>match t with
 | (.inl _)=>(some false)
 | (.inr _)=>((Ak (Fc a0) (0:Int)).bind λt=>match t with
 | (.inl _)=>(some false)
 | (.inr _)=>(some true))
theorem X3 {a0:SAlgebra} {v:Bool} (h:H5 a0=some v):Ret Tryz.prog Mu [(Ag false) a0] (V.bool v):=by
 refine A4 At8 (Nat.le_of_ble_eq_true rfl) ?_;unfold H5 at h;refine CutQ.o (λt:(Unit ⊕ Unit)=>match t with | (.inl s)=>(Ex.ret,[2],[(2,A.val (V.bool (false)))]) | (.inr s)=>(Ex.normal,[1],[(1,A.val ((rP true (Ag false)) (a0)))])) h ?_ ?_
 ·intro t h;refine Cells.lit rfl rfl<|CallQ.o V.bool (by rfl) h (λr h=>Si h) (λr1 h=> ?_)
  refine Br.flip<|Br.ob h (λp2 h=> ?_) (λp2 h=> ?_)
  ·refine Br.no<|Cells.lit rfl rfl<|Br.no<|Len.map<|Br.no<|Br.no<|Br.od h (λp3 h=> ?_) (λp3 h=> ?_)
   ·cases h;exact ⟨rfl,rfl⟩
   cases h;exact ⟨rfl,rfl⟩
  refine Br.yes<|Br.yes<|Br.yes<|Br.yes<|Br.yes ?_
  cases h;exact ⟨rfl,rfl⟩
 rintro (⟨⟩ | ⟨⟩) h
 ·try dsimp only at h
  cases h;exact (by rfl)
 try dsimp only at h
 refine LoopQ.o [3,1] (Q7 a0) (Zq a0) h (λs o h=>Al0 s o h) (by rfl) (by rintro (_ | _)<;>rfl) ?_;rintro (⟨⟩ | ⟨⟩) h
 ·try dsimp only at h
  cases h;exact (by rfl)
 try dsimp only at h
 cases h;exact (by rfl)
noncomputable def G0 (a0:List SOp) (b0:List SOp):Int->Option (Int ⊕ (Unit ⊕ Unit)):=λx5=>
 if x5<(↑a0.length:Int) then
 ask ((0:Int)<=x5/\x5<(↑a0.length:Int)) <|
 ask ((0:Int)<=x5/\x5<(↑b0.length:Int)) <|
 (Vc (nth a0 x5.toNat) (nth b0 x5.toNat)).bind λr5=>
 if (r5)=true then
 ask (InI (x5+(1:Int))) <|
 some (.inl (x5+(1:Int)))
 else
 some (.inr (.inl ()))
 else
 some (.inr (.inr ()))
def V6 (a0:List SOp) (b0:List SOp):Int->St:=λs=>[(5,A.val (Af s)),(0,A.val ((slr false 2 (Ay false)) (a0))),(1,A.val ((slr false 2 (Ay false)) (b0)))]
def Aeb (_a0:List SOp) (_b0:List SOp):(Unit ⊕ Unit)->Tgt
 | (.inl _s)=>(Ex.ret,[4],[(4,A.val (V.bool (false)))])
 | (.inr _s)=>((Ex.exit 0),[],[])
theorem Ap5 {a0:List SOp} {b0:List SOp} (x5:Int) (o:Int ⊕ (Unit ⊕ Unit)) (h:G0 a0 b0 x5=some o):vc Tryz.prog Ac5 (Cd [5,0,1] (V6 a0 b0) (Aeb a0 b0) o) (V6 a0 b0 x5):=by
 unfold G0 at h;try dsimp only at h
 refine Len.map<|Br.od h (λp2 h=> ?_) (λp2 h=> ?_)
 ·refine Len.map<|Ask.o h λp3 h=>Elem.o (by first | omega | (simp [Ap] at * <;> omega))<|Len.map<|Ask.o h λp4 h=>Elem.o (by first | omega | (simp [Ap] at * <;> omega))<|CallQ.o V.bool (by rfl) h (λr h=>A2j h) (λr5 h=> ?_)
  refine Br.flip<|Br.ob h (λp6 h=> ?_) (λp6 h=> ?_)
  ·refine Ask.o h λp7 h=> ?_
   cases h;exact ⟨rfl,rfl⟩
  cases h;exact ⟨rfl,rfl⟩
 cases h;exact ⟨rfl,rfl⟩
noncomputable def R1 (a0:(List SOp)) (b0:(List SOp)):Option Bool:=
 if (↑a0.length:Int)≠(↑b0.length:Int) then
 some false
 else
 (Ak (G0 a0 b0) (0:Int)).bind λt=>match t with
 | (.inl _)=>(some false)
 | (.inr _)=>(some true)
theorem A0j {a0:(List SOp)} {b0:(List SOp)} {v:Bool} (h:R1 a0 b0=some v):Ret Tryz.prog Adq [(slr false 2 (Ay false)) a0,(slr false 2 (Ay false)) b0] (V.bool v):=by
 refine A4 A1b (Nat.le_of_ble_eq_true rfl) ?_;unfold R1 at h;refine Len.map<|Len.map<|Br.on h (λp1 h=> ?_) (λp1 h=> ?_)
 ·cases h;exact (by rfl)
 refine LoopQ.o [5,0,1] (V6 a0 b0) (Aeb a0 b0) h (λs o h=>Ap5 s o h) (by rfl) (by rintro (_ | _)<;>rfl) ?_;rintro (⟨⟩ | ⟨⟩) h
 ·try dsimp only at h
  cases h;exact (by rfl)
 try dsimp only at h
 cases h;exact (by rfl)
noncomputable def Gr (c0:Sl1Cur) (n0:Int):Option (Bool×Sl1Cur):=
 (A9 (c0) (n0)).bind λ(r1,u2)=>
 some (r1==(0:Int),u2)
theorem Yq {c0:Sl1Cur} {n0:Int} {v:(Bool×Sl1Cur)} (h:Gr c0 n0=some v):J7 Tryz.prog L1 [(rP true (Al false)) c0,Af n0] (V.bool v.1) 0 ((rP true (Al false)) v.2):=by refine Ij Akw (Nat.le_of_ble_eq_true rfl) ?_;unfold Gr at h;refine CallQ.io Af (rP true (Al false)) (by rfl) rfl (λ_=>rfl) (λ_=>⟨rfl,rfl⟩) rfl h (λr h=>Bd h) (λr1 u2 h=> ?_);cases h;exact ⟨(by rfl),(by rfl)⟩
noncomputable def Bv (c0:Sl1Cur) (list0:(List Int)):Option (Int×Sl1Cur):=
 (A9 (c0) ((↑list0.length:Int))).bind λ(r1,u2)=>
 ask ((0:Int)<=r1/\r1<(↑list0.length:Int)) <|
 some (nth list0 r1.toNat,u2)
theorem Cf {c0:Sl1Cur} {list0:(List Int)} {v:(Int×Sl1Cur)} (h:Bv c0 list0=some v):J7 Tryz.prog Bu [(rP true (Al false)) c0,(slr false 1 Af) list0] (Af v.1) 0 ((rP true (Al false)) v.2):=by
 refine Ij Af8 (Nat.le_of_ble_eq_true rfl) ?_;unfold Bv at h;refine Len.map<|CallQ.io Af (rP true (Al false)) (by rfl) rfl (λ_=>rfl) (λ_=>⟨rfl,rfl⟩) rfl h (λr h=>Bd h) (λr1 u2 h=> ?_)
 refine Len.map<|Ask.o h λp3 h=>Elem.o (by first | omega | (simp [Ap] at * <;> omega)) ?_
 cases h;exact ⟨(by rfl),(by rfl)⟩
end Go.Proofs.YtmkgjnphianalaaGreat.Ax
