/-
 What the functions compute, as functions on plain data, and that the program does compute it; written by program.
-/
import Derived.Test.YtmkgjnphianalaaGreatCode
import Derived.Test.YtmkgjnphianalaaGreatG1
import Derived.Test.YtmkgjnphianalaaGreatG2
import Derived.Test.YtmkgjnphianalaaGreatG3
import Derived.Test.YtmkgjnphianalaaGreatG4
namespace Go.Proofs.YtmkgjnphianalaaGreat.Ax
open Go
set_option maxRecDepth 100000
set_option maxHeartbeats 4000000
noncomputable def Sk (f0:SOp) (n0:Int):Option Bool:=
 if f0.Arity>=(0:Int) then
 if f0.Arity<=(3:Int) then
 (Hp (n0) (f0.Arity)).bind λr3=>
 if (↑f0.Table.length:Int)=r3 then
 (J0 (f0.Table) (n0)).bind λr5=>
 some r5
 else
 some false
 else
 some false
 else
 some false
theorem A1w {f0:SOp} {n0:Int} {v:Bool} (h:Sk f0 n0=some v):Ret Tryz.prog Ad3 [(Ay false) f0,Af n0] (V.bool v):=by
 refine A4 A1d (Nat.le_of_ble_eq_true rfl) ?_;unfold Sk at h;refine Cells.lit rfl rfl<|Br.od h (λp1 h=> ?_) (λp1 h=> ?_)
 ·refine Br.yes<|Cells.lit rfl rfl<|Br.yes<|Br.yes<|Br.od h (λp2 h=> ?_) (λp2 h=> ?_)
  ·refine Br.yes<|Cells.lit rfl rfl<|Br.yes<|Len.map<|Br.yes<|Br.yes<|Br.yes<|Cells.lit rfl rfl<|Br.yes<|CallP.o Af (by rfl) h (λr h=>Abi h) (λr3 h=> ?_)
   refine Br.yes<|Br.yes<|Br.oe h (λp4 h=> ?_) (λp4 h=> ?_)
   ·refine Br.yes<|Cells.lit rfl rfl<|Br.yes<|Br.yes<|CallQ.o V.bool (by rfl) h (λr h=>Afb h) (λr5 h=> ?_)
    refine Br.yes ?_;cases h;exact (by rfl)
   refine Br.no<|Br.no<|Br.no<|Br.no ?_
   cases h;exact (by rfl)
  refine Br.no<|Br.no<|Br.no<|Br.no<|Br.no<|Br.no<|Br.no<|Br.no<|Br.no<|Br.no<|Br.no<|Br.no<|Br.no ?_
  cases h;exact (by rfl)
 refine Br.no<|Br.no<|Br.no<|Br.no<|Br.no<|Br.no<|Br.no<|Br.no<|Br.no<|Br.no<|Br.no<|Br.no<|Br.no<|Br.no<|Br.no<|Br.no<|Br.no ?_
 cases h;exact (by rfl)
noncomputable def Pf (f0:(List Int)) (a1:(List (List Int))):Option (Bool×(List (List Int))):=
 (Fh (f0)).bind λr1=>
 ask ((a1).length+([r1]).length<=LIM) <|
 some (decide ((↑(a1++[r1]).length:Int)<=(300:Int)),a1++[r1])
theorem Aie {f0:(List Int)} {a1:(List (List Int))} {v:(Bool×(List (List Int)))} (h:Pf f0 a1=some v):J7 Tryz.prog Ke [(slr false 1 Af) f0,(rP true (slr true 1 (slr true 1 Af))) a1] (V.bool v.1) 1 ((rP true (slr true 1 (slr true 1 Af))) v.2):=by
 refine Ij Ah0 (Nat.le_of_ble_eq_true rfl) ?_;unfold Pf at h;refine Cells.lit rfl rfl<|CallP.o (slr true 1 Af) (by rfl) h (λr h=>Oi h) (λr1 h=> ?_)
 refine BslQ.o (slr true 1 Af) [r1] (by exact λ_=>⟨rfl,rfl⟩) (by first | rfl | (simp only [Aa,V.fz,fzL,V.up,upL,Ab,Ac,Ad,slr,List.cons_append,List.nil_append];done) | simp [Aa,V.fz,fzL,V.up,upL,Ab,Ac,Ad,slr])<|NoOwn.own rfl<|Kid.lit rfl rfl<|Kid.lit rfl rfl<|SetKids.lit rfl<|AppQ.o (m:=1) (slr true 1 Af) (by exact λ_=>⟨rfl,rfl⟩) (a1) ([r1]) (by rfl) (by rfl) h λh=>SetKids.lit rfl<|Cells.lit rfl rfl<|Kid.lit rfl rfl<|Len.map ?_
 cases h;exact ⟨(by rfl),(by rfl)⟩
noncomputable def Gv (n0:Int) (op0:SOp):Int->Option (Int ⊕ (Unit ⊕ Unit)):=λx5=>
 if x5<(↑op0.Table.length:Int) then
 ask ((0:Int)<=x5/\x5<(↑op0.Table.length:Int)) <|
 ask (InI (n0-(1:Int))) <|
 (Ht (nth op0.Table x5.toNat) ((0:Int)) (n0-(1:Int))).bind λr9=>
 if (r9)=true then
 ask (InI (x5+(1:Int))) <|
 some (.inl (x5+(1:Int)))
 else
 some (.inr (.inl ()))
 else
 some (.inr (.inr ()))
def Vn (n0:Int) (op0:SOp):Int->St:=λs=>[(5,A.val (Af s)),(3,A.val ((rP true (Ay false)) (op0))),(0,A.val (Af (n0)))]
def Ac4 (_n0:Int) (_op0:SOp):(Unit ⊕ Unit)->Tgt
 | (.inl _s)=>(Ex.ret,[4],[(4,A.val (V.bool (false)))])
 | (.inr _s)=>((Ex.exit 0),[],[])
theorem Apo {n0:Int} {op0:SOp} (x5:Int) (o:Int ⊕ (Unit ⊕ Unit)) (h:Gv n0 op0 x5=some o):vc Tryz.prog Ad6 (Cd [5,3,0] (Vn n0 op0) (Ac4 n0 op0) o) (Vn n0 op0 x5):=by
 unfold Gv at h;try dsimp only at h
 refine Cells.lit rfl rfl<|Len.map<|Br.od h (λp6 h=> ?_) (λp6 h=> ?_)
 ·refine Cells.lit rfl rfl<|Len.map<|Ask.o h λp7 h=>Elem.o (by first | omega | (simp [Ap] at * <;> omega))<|Ask.o h λp8 h=>CallQ.o V.bool (by rfl) h (λr h=>Si h) (λr9 h=> ?_)
  refine Br.flip<|Br.ob h (λp10 h=> ?_) (λp10 h=> ?_)
  ·refine Ask.o h λp11 h=> ?_
   cases h;exact ⟨rfl,rfl⟩
  cases h;exact ⟨rfl,rfl⟩
 cases h;exact ⟨rfl,rfl⟩
noncomputable def Rw (n0:Int) (op0:SOp):Option Bool:=
 (((Ht (op0.Arity) ((0:Int)) ((3:Int))).bind λr1=>
 if (r1)=true then
 (I8 (n0) (op0.Arity)).bind λr3=>
 if (↑op0.Table.length:Int)≠r3 then
 some (.inl ())
 else
 some (.inr ())
 else
 some (.inl ()):Option (Unit ⊕ Unit))).bind λt=>match t with
 | (.inl _)=>(some false)
 | (.inr _)=>((Ak (Gv n0 op0) (0:Int)).bind λt=>match t with
 | (.inl _)=>(some false)
 | (.inr _)=>(some true))
theorem A1z {n0:Int} {op0:SOp} {v:Bool} (h:Rw n0 op0=some v):Ret Tryz.prog Ac9 [Af n0,(Ay false) op0] (V.bool v):=by
 refine A4 Az9 (Nat.le_of_ble_eq_true rfl) ?_;unfold Rw at h;refine CutQ.o (λt:(Unit ⊕ Unit)=>match t with | (.inl s)=>(Ex.ret,[4],[(4,A.val (V.bool (false)))]) | (.inr s)=>(Ex.normal,[3,0],[(3,A.val ((rP true (Ay false)) (op0))),(0,A.val (Af (n0)))])) h ?_ ?_
 ·intro t h;refine Cells.lit rfl rfl<|CallP.o V.bool (by rfl) h (λr h=>Si h) (λr1 h=> ?_)
  refine Br.flip<|Br.ob h (λp2 h=> ?_) (λp2 h=> ?_)
  ·refine Br.no<|Cells.lit rfl rfl<|Br.no<|Len.map<|Br.no<|Br.no<|Br.no<|Cells.lit rfl rfl<|Br.no<|CallP.o Af (by rfl) h (λr h=>Ait h) (λr3 h=> ?_)
   refine Br.no<|Br.no<|Br.on h (λp4 h=> ?_) (λp4 h=> ?_)
   ·cases h;exact ⟨rfl,rfl⟩
   cases h;exact ⟨rfl,rfl⟩
  refine Br.yes<|Br.yes<|Br.yes<|Br.yes<|Br.yes<|Br.yes<|Br.yes<|Br.yes<|Br.yes ?_
  cases h;exact ⟨rfl,rfl⟩
 rintro (⟨⟩ | ⟨⟩) h
 ·try dsimp only at h
  cases h;exact (by rfl)
 try dsimp only at h
 refine LoopQ.o [5,3,0] (Vn n0 op0) (Ac4 n0 op0) h (λs o h=>Apo s o h) (by rfl) (by rintro (_ | _)<;>rfl) ?_;rintro (⟨⟩ | ⟨⟩) h
 ·try dsimp only at h
  cases h;exact (by rfl)
 try dsimp only at h
 cases h;exact (by rfl)
noncomputable def D9 (l0:List Int) (lo0:Int) (hi0:Int):Int->Option (Int ⊕ (Unit ⊕ Unit)):=λx7=>
 if x7<(↑l0.length:Int) then
 ask ((0:Int)<=x7/\x7<(↑l0.length:Int)) <|
 (Ht (nth l0 x7.toNat) (lo0) (hi0)).bind λr3=>
 if (r3)=true then
 if x7>(0:Int) then
 ask (InI (x7-(1:Int))) <|
 ask ((0:Int)<=x7-(1:Int)/\x7-(1:Int)<(↑l0.length:Int)) <|
 ask ((0:Int)<=x7/\x7<(↑l0.length:Int)) <|
 if nth l0 (x7-(1:Int)).toNat>=nth l0 x7.toNat then
 some (.inr (.inl ()))
 else
 ask (InI (x7+(1:Int))) <|
 some (.inl (x7+(1:Int)))
 else
 ask (InI (x7+(1:Int))) <|
 some (.inl (x7+(1:Int)))
 else
 some (.inr (.inl ()))
 else
 some (.inr (.inr ()))
def Ni (l0:List Int) (lo0:Int) (hi0:Int):Int->St:=λs=>[(7,A.val (Af s)),(0,A.val ((slr false 1 Af) (l0))),(1,A.val (Af (lo0))),(2,A.val (Af (hi0)))]
def U0 (_l0:List Int) (_lo0:Int) (_hi0:Int):(Unit ⊕ Unit)->Tgt
 | (.inl _s)=>(Ex.ret,[6],[(6,A.val (V.bool (false)))])
 | (.inr _s)=>((Ex.exit 0),[],[])
theorem Afs {l0:List Int} {lo0:Int} {hi0:Int} (x7:Int) (o:Int ⊕ (Unit ⊕ Unit)) (h:D9 l0 lo0 hi0 x7=some o):vc Tryz.prog V5 (Cd [7,0,1,2] (Ni l0 lo0 hi0) (U0 l0 lo0 hi0) o) (Ni l0 lo0 hi0 x7):=by
 unfold D9 at h;try dsimp only at h
 refine Len.map<|Br.od h (λp1 h=> ?_) (λp1 h=> ?_)
 ·refine Len.map<|Ask.o h λp2 h=>Elem.o (by first | omega | (simp [Ap] at * <;> omega))<|CallP.o V.bool (by rfl) h (λr h=>Si h) (λr3 h=> ?_)
  refine Br.flip<|Br.ob h (λp4 h=> ?_) (λp4 h=> ?_)
  ·refine Br.no<|Br.no<|Br.od h (λp5 h=> ?_) (λp5 h=> ?_)
   ·refine Br.yes<|Br.yes<|Ask.o h λp6 h=>Br.yes<|Len.map<|Ask.o h λp7 h=>Elem.o (by first | omega | (simp [Ap] at * <;> omega))<|Br.yes<|Br.yes<|Br.yes<|Br.yes<|Len.map<|Ask.o h λp8 h=>Elem.o (by first | omega | (simp [Ap] at * <;> omega))<|Br.yes<|Br.yes<|Br.no<|Br.yes<|Br.no<|Br.od h (λp9 h=> ?_) (λp9 h=> ?_)
    ·cases h;exact ⟨rfl,rfl⟩
    refine Ask.o h λp10 h=> ?_
    cases h;exact ⟨rfl,rfl⟩
   refine Br.no<|Br.no<|Br.no<|Br.no<|Br.no<|Br.no<|Br.no<|Br.no<|Br.no<|Br.no<|Br.no<|Br.no<|Br.no<|Ask.o h λp11 h=> ?_
   cases h;exact ⟨rfl,rfl⟩
  refine Br.yes<|Br.yes<|Br.yes<|Br.yes<|Br.yes ?_
  cases h;exact ⟨rfl,rfl⟩
 cases h;exact ⟨rfl,rfl⟩
noncomputable def Jv (l0:(List Int)) (lo0:Int) (hi0:Int):Option Bool:=
 (Ak (D9 l0 lo0 hi0) (0:Int)).bind λt=>match t with
 | (.inl _)=>(some false)
 | (.inr _)=>(some true)
theorem Ang {l0:(List Int)} {lo0:Int} {hi0:Int} {v:Bool} (h:Jv l0 lo0 hi0=some v):Ret Tryz.prog Ua [(slr false 1 Af) l0,Af lo0,Af hi0] (V.bool v):=by
 refine A4 Ams (Nat.le_of_ble_eq_true rfl) ?_;unfold Jv at h;refine LoopQ.o [7,0,1,2] (Ni l0 lo0 hi0) (U0 l0 lo0 hi0) h (λs o h=>Afs s o h) (by rfl) (by rintro (_ | _)<;>rfl) ?_;rintro (⟨⟩ | ⟨⟩) h
 ·try dsimp only at h
  cases h;exact (by rfl)
 try dsimp only at h
 cases h;exact (by rfl)
noncomputable def Vc (a0:SOp) (b0:SOp):Option Bool:=
 if a0.Arity=b0.Arity then
 (Gg (a0.Table) (b0.Table)).bind λr2=>
 some r2
 else
 some false
theorem A2j {a0:SOp} {b0:SOp} {v:Bool} (h:Vc a0 b0=some v):Ret Tryz.prog Agr [(Ay false) a0,(Ay false) b0] (V.bool v):=by
 refine A4 A16 (Nat.le_of_ble_eq_true rfl) ?_;unfold Vc at h;refine Cells.lit rfl rfl<|Cells.lit rfl rfl<|Br.oe h (λp1 h=> ?_) (λp1 h=> ?_)
 ·refine Br.yes<|Cells.lit rfl rfl<|Br.yes<|Br.yes<|Cells.lit rfl rfl<|Br.yes<|CallQ.o V.bool (by rfl) h (λr h=>O7 h) (λr2 h=> ?_)
  refine Br.yes ?_;cases h;exact (by rfl)
 refine Br.no<|Br.no<|Br.no<|Br.no<|Br.no ?_
 cases h;exact (by rfl)
noncomputable def In (lists0:List (List Int)) (l0:List Int):Int->Option (Int ⊕ Int):=λx5=>
 if x5>(0:Int) then
 ask (InI (x5-(1:Int))) <|
 ask ((0:Int)<=x5-(1:Int)/\x5-(1:Int)<(↑lists0.length:Int)) <|
 if (↑l0.length:Int)<(↑(nth lists0 (x5-(1:Int)).toNat).length:Int) then
 ask (InI (x5-(1:Int))) <|
 some (.inl (x5-(1:Int)))
 else
 ask (InI (x5-(1:Int))) <|
 ask ((0:Int)<=x5-(1:Int)/\x5-(1:Int)<(↑lists0.length:Int)) <|
 if (↑l0.length:Int)=(↑(nth lists0 (x5-(1:Int)).toNat).length:Int) then
 ask (InI (x5-(1:Int))) <|
 ask ((0:Int)<=x5-(1:Int)/\x5-(1:Int)<(↑lists0.length:Int)) <|
 (Jy (l0) (nth lists0 (x5-(1:Int)).toNat)).bind λr11=>
 if (r11)=true then
 ask (InI (x5-(1:Int))) <|
 some (.inl (x5-(1:Int)))
 else
 some (.inr x5)
 else
 some (.inr x5)
 else
 some (.inr x5)
def Qw (lists0:List (List Int)) (l0:List Int):Int->St:=λs=>[(5,A.val (Af s)),(0,A.val ((slr false 1 (slr false 1 Af)) (lists0))),(1,A.val ((slr false 1 Af) (l0)))]
def Z2 (lists0:List (List Int)) (l0:List Int):Int->Tgt
 | s=>((Ex.exit 0),[5,0,1],[(5,A.val (Af s)),(0,A.val ((slr false 1 (slr false 1 Af)) (lists0))),(1,A.val ((slr false 1 Af) (l0)))])
theorem Akz {lists0:List (List Int)} {l0:List Int} (x5:Int) (o:Int ⊕ Int) (h:In lists0 l0 x5=some o):vc Tryz.prog Zo (Cd [5,0,1] (Qw lists0 l0) (Z2 lists0 l0) o) (Qw lists0 l0 x5):=by
 unfold In at h;try dsimp only at h
 refine Br.od h (λp1 h=> ?_) (λp1 h=> ?_)
 ·refine Br.yes<|Len.map<|Br.yes<|Br.yes<|Br.yes<|Ask.o h λp2 h=>Br.yes<|Len.map<|Ask.o h λp3 h=>Elem.o (by first | omega | (simp [Ap] at * <;> omega))<|Br.yes<|Br.yes<|Len.map<|Br.yes<|Br.yes<|Br.od h (λp4 h=> ?_) (λp4 h=> ?_)
  ·refine Br.yes<|Br.yes<|Br.yes<|Br.yes<|Br.yes<|Br.yes<|Br.yes<|Br.yes<|Br.yes<|Br.yes<|Br.yes<|Br.yes<|Br.yes<|Br.yes<|Ask.o h λp5 h=> ?_
   cases h;exact ⟨rfl,rfl⟩
  refine Br.no<|Len.map<|Br.no<|Br.no<|Br.no<|Ask.o h λp6 h=>Br.no<|Len.map<|Ask.o h λp7 h=>Elem.o (by first | omega | (simp [Ap] at * <;> omega))<|Br.no<|Br.no<|Len.map<|Br.no<|Br.no<|Br.oe h (λp8 h=> ?_) (λp8 h=> ?_)
  ·refine Br.yes<|Br.yes<|Br.yes<|Ask.o h λp9 h=>Br.yes<|Len.map<|Ask.o h λp10 h=>Elem.o (by first | omega | (simp [Ap] at * <;> omega))<|Br.yes<|Br.yes<|CallQ.o V.bool (by rfl) h (λr h=>Afi h) (λr11 h=> ?_)
   refine Br.no<|Br.yes<|Br.yes<|Br.no<|Br.yes<|Br.ob h (λp12 h=> ?_) (λp12 h=> ?_)
   ·refine Ask.o h λp13 h=> ?_
    cases h;exact ⟨rfl,rfl⟩
   cases h;exact ⟨rfl,rfl⟩
  refine Br.no<|Br.no<|Br.no<|Br.no<|Br.no<|Br.no<|Br.no<|Br.no<|Br.yes<|Br.no<|Br.yes<|Br.no ?_
  cases h;exact ⟨rfl,rfl⟩
 refine Br.no<|Br.no<|Br.no<|Br.no<|Br.no<|Br.no<|Br.no<|Br.no<|Br.no<|Br.no<|Br.no<|Br.no ?_
 cases h;exact ⟨rfl,rfl⟩
noncomputable def My (lists0:(List (List Int))) (l0:(List Int)):Option (List (List Int)):=
 (Ak (In lists0 l0) (↑lists0.length:Int)).bind λq14_5=>
 ask (0<=(0:Int)/\(0:Int)<=q14_5/\q14_5<=((lists0.length:Nat):Int)) <|
 ask ((Aw (List Int)).length+(List.take (q14_5.toNat-Int.toNat (0:Int)) (List.drop (Int.toNat (0:Int)) lists0)).length<=LIM) <|
 ask ((Aw (List Int)++List.take (q14_5.toNat-Int.toNat (0:Int)) (List.drop (Int.toNat (0:Int)) lists0)).length+([l0]).length<=LIM) <|
 ask (0<=q14_5/\q14_5<=(↑lists0.length:Int)/\(↑lists0.length:Int)<=((lists0.length:Nat):Int)) <|
 ask ((Aw (List Int)++List.take (q14_5.toNat-Int.toNat (0:Int)) (List.drop (Int.toNat (0:Int)) lists0)++[l0]).length+(List.take ((↑lists0.length:Int).toNat-q14_5.toNat) (List.drop q14_5.toNat lists0)).length<=LIM) <|
 some (Aw (List Int)++List.take (q14_5.toNat-Int.toNat (0:Int)) (List.drop (Int.toNat (0:Int)) lists0)++[l0]++List.take ((↑lists0.length:Int).toNat-q14_5.toNat) (List.drop q14_5.toNat lists0))
theorem Atm {lists0:(List (List Int))} {l0:(List Int)} {v:(List (List Int))} (h:My lists0 l0=some v):Ret Tryz.prog Ym [(slr false 1 (slr false 1 Af)) lists0,(slr false 1 Af) l0] ((slr true 1 (slr false 1 Af)) v):=by
 refine A4 As6 (Nat.le_of_ble_eq_true rfl) ?_;unfold My at h;refine Len.map<|LoopQ.o [5,0,1] (Qw lists0 l0) (Z2 lists0 l0) h (λs o h=>Akz s o h) (by rfl) (λ_=>rfl) ?_
 rintro q14_5 h;try dsimp only at h
 refine BslQ.o (slr true 1 Af) (Aw (List Int)) (by exact λ_=>⟨rfl,rfl⟩) (by first | rfl | (simp only [Aa,V.fz,fzL,V.up,upL,Ab,Ac,Ad,slr,List.cons_append,List.nil_append];done) | simp [Aa,V.fz,fzL,V.up,upL,Ab,Ac,Ad,slr])<|SlcQ.o (slr false 1 Af) h λh=>AppQ.o (m:=1) (slr false 1 Af) (by exact λ_=>⟨rfl,rfl⟩) (Aw (List Int)) (List.take (q14_5.toNat-Int.toNat (0:Int)) (List.drop (Int.toNat (0:Int)) lists0)) (by rfl) (by rfl) h λh=>BslQ.o (slr false 1 Af) [l0] (by exact λ_=>⟨rfl,rfl⟩) (by first | rfl | (simp only [Aa,V.fz,fzL,V.up,upL,Ab,Ac,Ad,slr,List.cons_append,List.nil_append];done) | simp [Aa,V.fz,fzL,V.up,upL,Ab,Ac,Ad,slr])<|NoOwn.o (λ_=>rfl)<|AppQ.o (m:=1) (slr false 1 Af) (by exact λ_=>⟨rfl,rfl⟩) (Aw (List Int)++List.take (q14_5.toNat-Int.toNat (0:Int)) (List.drop (Int.toNat (0:Int)) lists0)) ([l0]) (by rfl) (by rfl) h λh=>Len.map<|SlcQ.o (slr false 1 Af) h λh=>AppQ.o (m:=1) (slr false 1 Af) (by exact λ_=>⟨rfl,rfl⟩) (Aw (List Int)++List.take (q14_5.toNat-Int.toNat (0:Int)) (List.drop (Int.toNat (0:Int)) lists0)++[l0]) (List.take ((↑lists0.length:Int).toNat-q14_5.toNat) (List.drop q14_5.toNat lists0)) (by rfl) (by rfl) h λh=> ?_
 cases h;exact (by rfl)
noncomputable def En (p0:List Int) (r3:Int) (r6:Int):(Int×(List Int))->Option ((Int×(List Int)) ⊕ (List Int)):=λ(x10,x9)=>
 if x10<(↑p0.length:Int) then
 ask ((0:Int)<=x10/\x10<(↑p0.length:Int)) <|
 if nth p0 x10.toNat=r6 then
 ask ((x9).length+([r3]).length<=LIM) <|
 ask (InI (x10+(1:Int))) <|
 some (.inl (x10+(1:Int),x9++[r3]))
 else
 ask ((0:Int)<=x10/\x10<(↑p0.length:Int)) <|
 ask ((x9).length+([nth p0 x10.toNat]).length<=LIM) <|
 ask (InI (x10+(1:Int))) <|
 some (.inl (x10+(1:Int),x9++[nth p0 x10.toNat]))
 else
 some (.inr x9)
def Pt (p0:List Int) (r3:Int) (r6:Int):(Int×(List Int))->St:=λs=>[(10,A.val (Af s.1)),(9,A.val ((slr true 1 Af) s.2)),(8,A.val (Af (r6))),(7,A.val (Af (r3))),(0,A.val ((slr false 1 Af) (p0)))]
def W2 (_p0:List Int) (_r3:Int) (_r6:Int):(List Int)->Tgt
 | s=>((Ex.exit 0),[9],[(9,A.val ((slr true 1 Af) s))])
theorem Ajs {p0:List Int} {r3:Int} {r6:Int} (s:(Int×(List Int))) (o:(Int×(List Int)) ⊕ (List Int)) (h:En p0 r3 r6 s=some o):vc Tryz.prog Xv (Cd [10,9,8,7,0] (Pt p0 r3 r6) (W2 p0 r3 r6) o) (Pt p0 r3 r6 s):=by
 obtain ⟨x10,x9⟩:=s;unfold En at h;try dsimp only at h
 refine Len.map<|Br.od h (λp7 h=> ?_) (λp7 h=> ?_)
 ·refine Len.map<|Ask.o h λp8 h=>Elem.o (by first | omega | (simp [Ap] at * <;> omega))<|Br.oe h (λp9 h=> ?_) (λp9 h=> ?_)
  ·refine BslQ.o Af [r3] (by exact λ_=>⟨rfl,rfl⟩) (by first | rfl | (simp only [Aa,V.fz,fzL,V.up,upL,Ab,Ac,Ad,slr,List.cons_append,List.nil_append];done) | simp [Aa,V.fz,fzL,V.up,upL,Ab,Ac,Ad,slr])<|NoOwn.o (λ_=>rfl)<|AppQ.o (m:=1) Af (by exact λ_=>⟨rfl,rfl⟩) (x9) ([r3]) (by rfl) (by rfl) h λh=>Ask.o h λp10 h=> ?_
   cases h;exact ⟨rfl,rfl⟩
  refine Len.map<|Ask.o h λp11 h=>Elem.o (by first | omega | (simp [Ap] at * <;> omega))<|BslQ.o Af ([nth p0 x10.toNat]) (by exact λ_=>⟨rfl,rfl⟩) (by first | rfl | (simp only [Aa,V.fz,fzL,V.up,upL,Ab,Ac,Ad,slr,List.cons_append,List.nil_append];done) | simp [Aa,V.fz,fzL,V.up,upL,Ab,Ac,Ad,slr])<|NoOwn.o (λ_=>rfl)<|AppQ.o (m:=1) Af (by exact λ_=>⟨rfl,rfl⟩) (x9) ([nth p0 x10.toNat]) (by rfl) (by rfl) h λh=>Ask.o h λp12 h=> ?_
  cases h;exact ⟨rfl,rfl⟩
 cases h;exact ⟨rfl,rfl⟩
noncomputable def Fv (p0:(List Int)) (x0:Int) (y0:Int):Option (List Int):=
 ask ((0:Int)<=x0/\x0<(↑p0.length:Int)) <|
 ask ((0:Int)<=y0/\y0<(↑p0.length:Int)) <|
 (Fu (nth p0 x0.toNat) (nth p0 y0.toNat)).bind λr3=>
 ask ((0:Int)<=x0/\x0<(↑p0.length:Int)) <|
 ask ((0:Int)<=y0/\y0<(↑p0.length:Int)) <|
 (J4 (nth p0 x0.toNat) (nth p0 y0.toNat)).bind λr6=>
 (Ak (En p0 r3 r6) ((0:Int),Aw Int)).bind λq13_9=>
 some q13_9
theorem Pm {p0:(List Int)} {x0:Int} {y0:Int} {v:(List Int)} (h:Fv p0 x0 y0=some v):Ret Tryz.prog Io [(slr false 1 Af) p0,Af x0,Af y0] ((slr true 1 Af) v):=by
 refine A4 Aqd (Nat.le_of_ble_eq_true rfl) ?_;unfold Fv at h;refine Len.map<|Ask.o h λp1 h=>Elem.o (by first | omega | (simp [Ap] at * <;> omega))<|Len.map<|Ask.o h λp2 h=>Elem.o (by first | omega | (simp [Ap] at * <;> omega))<|CallP.o Af (by rfl) h (λr h=>Ade h) (λr3 h=> ?_)
 refine Len.map<|Ask.o h λp4 h=>Elem.o (by first | omega | (simp [Ap] at * <;> omega))<|Len.map<|Ask.o h λp5 h=>Elem.o (by first | omega | (simp [Ap] at * <;> omega))<|CallQ.o Af (by rfl) h (λr h=>Afm h) (λr6 h=> ?_)
 refine BslQ.o Af (Aw Int) (by exact λ_=>⟨rfl,rfl⟩) (by first | rfl | (simp only [Aa,V.fz,fzL,V.up,upL,Ab,Ac,Ad,slr,List.cons_append,List.nil_append];done) | simp [Aa,V.fz,fzL,V.up,upL,Ab,Ac,Ad,slr])<|LoopQ.o [10,9,8,7,0] (Pt p0 r3 r6) (W2 p0 r3 r6) h (λs o h=>Ajs s o h) (by rfl) (λ_=>rfl) ?_
 rintro q13_9 h;try dsimp only at h
 cases h;exact (by rfl)
end Go.Proofs.YtmkgjnphianalaaGreat.Ax
