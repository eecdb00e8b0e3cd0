/-
 What the functions compute, as functions on plain data, and that the program does compute it; written by program.
-/
import Derived.Test.YtaalgpkajkogkaaCode
namespace Go.Proofs.Ytaalgpkajkogkaa.Ax
open Go
set_option maxRecDepth 100000
set_option maxHeartbeats 4000000
noncomputable def W1 (code0:(List Int)):Option Bool:=
 some (decide ((↑code0.length:Int)>(65536:Int)))
theorem Avf {code0} {v} (h:W1 code0=some v):Ret Try.prog Ac3 [(slr false 1 (V.int IntKind.u8)) code0] (V.bool v):=by refine Bn Auy (Nat.le_of_ble_eq_true rfl) ?_;unfold W1 at h;refine Len.map ?_;cases h;exact (by rfl)
noncomputable def Fq (a0:List Int) (b0:List Int):Int->Option (Int ⊕ (Unit ⊕ Unit)):=λx5=>
 if x5<(↑a0.length:Int) then
 ask ((0:Int)<=x5/\x5<(↑a0.length:Int)) <|
 ask ((0:Int)<=x5/\x5<(↑b0.length:Int)) <|
 if nth a0 x5.toNat≠nth b0 x5.toNat then
 some (.inr (.inl ()))
 else
 ask (InI (x5+(1:Int))) <|
 some (.inl (x5+(1:Int)))
 else
 some (.inr (.inr ()))
def S6 (a0:List Int) (b0:List Int):Int->St:=λs=>[(5,A.val (Ae s)),(0,A.val (slr false 1 Ae a0)),(1,A.val (slr false 1 Ae b0))]
def Aa3 (_a0:List Int) (_b0:List Int):(Unit ⊕ Unit)->Tgt
 | (.inl _s)=>(Ex.ret,[4],[(4,A.val (V.bool false))])
 | (.inr _s)=>((Ex.exit 0),[],[])
theorem Amt {a0} {b0} (x5) o (h:Fq a0 b0 x5=some o):vc Try.prog Aaw (Ch [5,0,1] (S6 a0 b0) (Aa3 a0 b0) o) (S6 a0 b0 x5):=by
 unfold Fq at h;try dsimp only at h
 refine Len.map<|Br.od h (λp2 h=> ?_) (λp2 h=> ?_)
 ·refine Len.map<|Ask.o h λp3 h=>Elem.o (by first | omega | (simp [Au] at * <;> omega))<|Len.map<|Ask.o h λp4 h=>Elem.o (by first | omega | (simp [Au] at * <;> omega))<|Br.on h (λp5 h=> ?_) (λp5 h=> ?_)
  ·cases h;exact ⟨rfl,rfl⟩
  refine Ask.o h λp6 h=> ?_
  cases h;exact ⟨rfl,rfl⟩
 cases h;exact ⟨rfl,rfl⟩
noncomputable def L9 (a0:(List Int)) (b0:(List Int)):Option Bool:=
 if (↑a0.length:Int)≠(↑b0.length:Int) then
 some false
 else
 (Aq (Fq a0 b0) (0:Int)).bind λt=>match t with
 | (.inl _)=>(some false)
 | (.inr _)=>(some true)
theorem Ahk {a0} {b0} {v} (h:L9 a0 b0=some v):Ret Try.prog T9 [(slr false 1 Ae) a0,(slr false 1 Ae) b0] (V.bool v):=by
 refine Bn Auj (Nat.le_of_ble_eq_true rfl) ?_;unfold L9 at h;refine Len.map<|Len.map<|Br.on h (λp1 h=> ?_) (λp1 h=> ?_)
 ·cases h;exact (by rfl)
 refine LoopQ.o [5,0,1] (S6 a0 b0) (Aa3 a0 b0) h (λs o h=>Amt s o h) (by rfl) (by rintro (_ | _)<;>rfl) ?_;rintro (⟨⟩ | ⟨⟩) h
 ·try dsimp only at h
  cases h;exact (by rfl)
 try dsimp only at h
 cases h;exact (by rfl)
noncomputable def Fc (l0:(List Int)):Option (List Int):=
 ask ((Av Int).length+(l0).length<=LIM) <|
 some (Av Int++l0)
theorem P0 {l0} {v} (h:Fc l0=some v):Ret Try.prog Jz [(slr false 1 Ae) l0] (slr true 1 Ae v):=by
 refine Bn At3 (Nat.le_of_ble_eq_true rfl) ?_;unfold Fc at h;refine BslQ.o Ae (Av Int) (by exact λ_=>⟨rfl,rfl⟩) (by rfl)<|AppQ.o (m:=1) Ae (by exact λ_=>⟨rfl,rfl⟩) (Av Int) (l0) (by rfl) (by rfl) h λh=> ?_
 cases h;exact (by rfl)
noncomputable def F4 (list0:List Int) (n0:Int):Int->Option (Int ⊕ (Unit ⊕ Unit)):=λx9=>
 if x9<(↑list0.length:Int) then
 ask ((0:Int)<=x9/\x9<(↑list0.length:Int)) <|
 if nth list0 x9.toNat<(0:Int) then
 some (.inr (.inl ()))
 else
 if nth list0 x9.toNat>=n0 then
 some (.inr (.inl ()))
 else
 ask (InI (x9+(1:Int))) <|
 some (.inl (x9+(1:Int)))
 else
 some (.inr (.inr ()))
def Rs (list0:List Int) (n0:Int):Int->St:=λs=>[(9,A.val (Ae s)),(8,A.val (Ae ((↑list0.length:Int)))),(7,A.val (slr false 1 Ae list0)),(1,A.val (Ae n0))]
def X1 (_list0:List Int) (_n0:Int):(Unit ⊕ Unit)->Tgt
 | (.inl _s)=>(Ex.ret,[4],[(4,A.val (V.bool false))])
 | (.inr _s)=>((Ex.exit 0),[],[])
theorem Akj {list0} {n0} (x9) o (h:F4 list0 n0 x9=some o):vc Try.prog Yt (Ch [9,8,7,1] (Rs list0 n0) (X1 list0 n0) o) (Rs list0 n0 x9):=by
 unfold F4 at h;try dsimp only at h
 refine Br.od h (λp1 h=> ?_) (λp1 h=> ?_)
 ·refine Len.map<|Ask.o h λp2 h=>Elem.o (by first | omega | (simp [Au] at * <;> omega))<|Br.od h (λp3 h=> ?_) (λp3 h=> ?_)
  ·refine Br.yes<|Br.yes<|Br.yes<|Br.yes ?_
   cases h;exact ⟨rfl,rfl⟩
  refine Br.no<|Br.no<|Br.no<|Br.od h (λp4 h=> ?_) (λp4 h=> ?_)
  ·cases h;exact ⟨rfl,rfl⟩
  refine Ask.o h λp5 h=> ?_
  cases h;exact ⟨rfl,rfl⟩
 cases h;exact ⟨rfl,rfl⟩
noncomputable def Gf (list0:(List Int)) (n0:Int):Option Bool:=
 (Aq (F4 list0 n0) (0:Int)).bind λt=>match t with
 | (.inl _)=>(some false)
 | (.inr _)=>(some true)
theorem Na {list0} {n0} {v} (h:Gf list0 n0=some v):Ret Try.prog Iq [(slr false 1 Ae) list0,Ae n0] (V.bool v):=by
 refine Bn Arc (Nat.le_of_ble_eq_true rfl) ?_;unfold Gf at h;refine Len.map<|LoopQ.o [9,8,7,1] (Rs list0 n0) (X1 list0 n0) h (λs o h=>Akj s o h) (by rfl) (by rintro (_ | _)<;>rfl) ?_
 rintro (⟨⟩ | ⟨⟩) h
 ·try dsimp only at h
  cases h;exact (by rfl)
 try dsimp only at h
 cases h;exact (by rfl)
noncomputable def Dx (x0:Int) (a0:Int) (b0:Int):Option Bool:=
 if x0>=a0 then
 some (decide (x0<=b0))
 else
 some false
theorem Hc {x0} {a0} {b0} {v} (h:Dx x0 a0 b0=some v):Ret Try.prog Fv [Ae x0,Ae a0,Ae b0] (V.bool v):=by
 refine Bn Awj (Nat.le_of_ble_eq_true rfl) ?_;unfold Dx at h;refine Br.od h (λp1 h=> ?_) (λp1 h=> ?_)
 ·refine Br.yes<|Br.yes<|Br.yes ?_
  cases h;exact (by rfl)
 refine Br.no<|Br.no<|Br.no ?_
 cases h;exact (by rfl)
noncomputable def Di (n0:Int):(Int×Int)->Option ((Int×Int) ⊕ Int):=λ(x5,x1)=>
 if x1>(0:Int) then
 ask (InI (x5*n0)) <|
 ask (InI (x1-(1:Int))) <|
 some (.inl (x5*n0,x1-(1:Int)))
 else
 some (.inr x5)
def Tj (n0:Int):(Int×Int)->St:=λs=>[(5,A.val (Ae s.1)),(0,A.val (Ae n0)),(1,A.val (Ae s.2))]
def Aa2 (_n0:Int):Int->Tgt
 | s=>((Ex.exit 0),[5],[(5,A.val (Ae s))])
theorem Amh {n0} (s) o (h:Di n0 s=some o):vc Try.prog Aa7 (Ch [5,0,1] (Tj n0) (Aa2 n0) o) (Tj n0 s):=by
 obtain ⟨x5,x1⟩:=s;unfold Di at h;try dsimp only at h
 refine Br.od h (λp1 h=> ?_) (λp1 h=> ?_)
 ·refine Ask.o h λp2 h=>Ask.o h λp3 h=> ?_
  cases h;exact ⟨rfl,rfl⟩
 cases h;exact ⟨rfl,rfl⟩
noncomputable def Dq (n0:Int) (k0:Int):Option Int:=
 (Aq (Di n0) ((1:Int),k0)).bind λq4_5=>
 some q4_5
theorem Qe {n0} {k0} {v} (h:Dq n0 k0=some v):Ret Try.prog Jw [Ae n0,Ae k0] (Ae v):=by
 refine Bn As1 (Nat.le_of_ble_eq_true rfl) ?_;unfold Dq at h;refine LoopQ.o [5,0,1] (Tj n0) (Aa2 n0) h (λs o h=>Amh s o h) (by rfl) (λ_=>rfl) ?_;rintro q4_5 h;try dsimp only at h
 cases h;exact (by rfl)
noncomputable def F6 (n0:Int):(Int×(List Int)×Int)->Option ((Int×(List Int)×Int) ⊕ (List Int)):=λ(x8,x7,x2)=>
 if x8>=(0:Int) then
 ask (n0≠(0:Int)) <|
 ask ((0:Int)<=x8/\x8<(↑x7.length:Int)) <|
 ask (n0≠(0:Int)/\InI (x2.tdiv n0)) <|
 ask (InI (x8-(1:Int))) <|
 some (.inl (x8-(1:Int),x7.set x8.toNat (x2.tmod n0),x2.tdiv n0))
 else
 some (.inr x7)
def Rr (n0:Int):(Int×(List Int)×Int)->St:=λs=>[(8,A.val (Ae s.1)),(7,A.val (slr true 1 Ae s.2.1)),(0,A.val (Ae n0)),(2,A.val (Ae s.2.2))]
def X2 (_n0:Int):(List Int)->Tgt
 | s=>((Ex.exit 0),[7],[(7,A.val (slr true 1 Ae s))])
theorem Ajl {n0} (s) o (h:F6 n0 s=some o):vc Try.prog Yj (Ch [8,7,0,2] (Rr n0) (X2 n0) o) (Rr n0 s):=by
 obtain ⟨x8,x7,x2⟩:=s;unfold F6 at h;try dsimp only at h
 refine Br.od h (λp3 h=> ?_) (λp3 h=> ?_)
 ·refine Ask.o h λp4 h=>Len.map<|Ask.o h λp5 h=>SetKids.one (λ_=>⟨rfl,rfl⟩) (x2.tmod n0) (by rfl) (by first | omega | (simp [Au] at * <;> omega))<|Ask.o h λp6 h=>Ask.o h λp7 h=> ?_
  cases h;exact ⟨rfl,rfl⟩
 cases h;exact ⟨rfl,rfl⟩
noncomputable def Hd (n0:Int) (arity0:Int) (at0:Int):Option (List Int):=
 ask ((0:Int)<=arity0/\arity0<=(↑LIM:Int)) <|
 ask (InI (arity0-(1:Int))) <|
 (Aq (F6 n0) (arity0-(1:Int),List.replicate arity0.toNat (0:Int),at0)).bind λq8_7=>
 some q8_7
theorem Xo {n0} {arity0} {at0} {v} (h:Hd n0 arity0 at0=some v):Ret Try.prog M4 [Ae n0,Ae arity0,Ae at0] (slr true 1 Ae v):=by
 refine Bn Aql (Nat.le_of_ble_eq_true rfl) ?_;unfold Hd at h;refine Ask.o h λp1 h=>MkQ.o Ae ((0:Int)) rfl<|Ask.o h λp2 h=>LoopQ.o [8,7,0,2] (Rr n0) (X2 n0) h (λs o h=>Ajl s o h) (by rfl) (λ_=>rfl) ?_
 rintro q8_7 h;try dsimp only at h
 cases h;exact (by rfl)
noncomputable def D6 (n0:Int) (_f0:SOp) (tables0:List (List Int)) (_size0:Int) (x10:Int) (_x9:List Int):(Int×Int)->Option ((Int×Int) ⊕ Int):=λ(x12,x11)=>
 if x12<(↑tables0.length:Int) then
 ask (InI (x11*n0)) <|
 ask ((0:Int)<=x12/\x12<(↑tables0.length:Int)) <|
 ask ((0:Int)<=x10/\x10<(↑(nth tables0 x12.toNat).length:Int)) <|
 ask (InI (x11*n0+nth (nth tables0 x12.toNat) x10.toNat)) <|
 ask (InI (x12+(1:Int))) <|
 some (.inl (x12+(1:Int),x11*n0+nth (nth tables0 x12.toNat) x10.toNat))
 else
 some (.inr x11)
def Lp (n0:Int) (f0:SOp) (tables0:List (List Int)) (size0:Int) (x10:Int) (x9:List Int):(Int×Int)->St:=λs=>[(12,A.val (Ae s.1)),(11,A.val (Ae s.2)),(10,A.val (Ae x10)),(9,A.val (slr true 1 Ae x9)),(5,A.val (rP true (Bd false) f0)),(0,A.val (Ae n0)),(2,A.val (slr false 1 (slr false 1 Ae) tables0)),(3,A.val (Ae size0))]
def Sr (n0:Int) (f0:SOp) (tables0:List (List Int)) (size0:Int) (x10:Int) (x9:List Int):Int->Tgt
 | s=>((Ex.exit 2),[11,10,9,5,0,2,3],[(11,A.val (Ae s)),(10,A.val (Ae x10)),(9,A.val (slr true 1 Ae x9)),(5,A.val (rP true (Bd false) f0)),(0,A.val (Ae n0)),(2,A.val (slr false 1 (slr false 1 Ae) tables0)),(3,A.val (Ae size0))])
theorem Abx {n0} {f0} {tables0} {size0} {x10} {x9} (s) o (h:D6 n0 f0 tables0 size0 x10 x9 s=some o):vc Try.prog Sp (Ch [12,11,10,9,5,0,2,3] (Lp n0 f0 tables0 size0 x10 x9) (Sr n0 f0 tables0 size0 x10 x9) o) (Lp n0 f0 tables0 size0 x10 x9 s):=by
 obtain ⟨x12,x11⟩:=s;unfold D6 at h;try dsimp only at h
 refine Len.map<|Br.od h (λp2 h=> ?_) (λp2 h=> ?_)
 ·refine Ask.o h λp3 h=>Len.map<|Ask.o h λp4 h=>Elem.o (by first | omega | (simp [Au] at * <;> omega))<|Len.map<|Ask.o h λp5 h=>Elem.o (by first | omega | (simp [Au] at * <;> omega))<|Ask.o h λp6 h=>Ask.o h λp7 h=> ?_
  cases h;exact ⟨rfl,rfl⟩
 cases h;exact ⟨rfl,rfl⟩
noncomputable def D4 (n0:Int) (f0:SOp) (tables0:List (List Int)) (size0:Int):(Int×(List Int))->Option ((Int×(List Int)) ⊕ (List Int)):=λ(x10,x9)=>
 if x10<size0 then
 (Aq (D6 n0 f0 tables0 size0 x10 x9) ((0:Int),(0:Int))).bind λq8_11=>
 ask ((0:Int)<=q8_11/\q8_11<(↑f0.Table.length:Int)) <|
 ask ((x9).length+([nth f0.Table q8_11.toNat]).length<=LIM) <|
 ask (InI (x10+(1:Int))) <|
 some (.inl (x10+(1:Int),x9++[nth f0.Table q8_11.toNat]))
 else
 some (.inr x9)
def L1 (n0:Int) (f0:SOp) (tables0:List (List Int)) (size0:Int):(Int×(List Int))->St:=λs=>[(10,A.val (Ae s.1)),(9,A.val (slr true 1 Ae s.2)),(5,A.val (rP true (Bd false) f0)),(0,A.val (Ae n0)),(2,A.val (slr false 1 (slr false 1 Ae) tables0)),(3,A.val (Ae size0))]
def Sb (_n0:Int) (_f0:SOp) (_tables0:List (List Int)) (_size0:Int):(List Int)->Tgt
 | s=>((Ex.exit 0),[9],[(9,A.val (slr true 1 Ae s))])
theorem Ab6 {n0} {f0} {tables0} {size0} (s) o (h:D4 n0 f0 tables0 size0 s=some o):vc Try.prog Se (Ch [10,9,5,0,2,3] (L1 n0 f0 tables0 size0) (Sb n0 f0 tables0 size0) o) (L1 n0 f0 tables0 size0 s):=by
 obtain ⟨x10,x9⟩:=s;unfold D4 at h;try dsimp only at h
 refine Br.od h (λp1 h=> ?_) (λp1 h=> ?_)
 ·refine LoopQ.o [12,11,10,9,5,0,2,3] (Lp n0 f0 tables0 size0 x10 x9) (Sr n0 f0 tables0 size0 x10 x9) h (λs o h=>Abx s o h) (by rfl) (λ_=>rfl) ?_;rintro q8_11 h;try dsimp only at h
  refine Cells.lit rfl rfl<|Len.map<|Ask.o h λp9 h=>Elem.o (by first | omega | (simp [Au] at * <;> omega))<|BslQ.o Ae ([nth f0.Table q8_11.toNat]) (by exact λ_=>⟨rfl,rfl⟩) (by rfl)<|NoOwn.o (λ_=>rfl)<|AppQ.o (m:=1) Ae (by exact λ_=>⟨rfl,rfl⟩) (x9) ([nth f0.Table q8_11.toNat]) (by rfl) (by rfl) h λh=>Ask.o h λp10 h=> ?_
  cases h;exact ⟨rfl,rfl⟩
 cases h;exact ⟨rfl,rfl⟩
noncomputable def Fh (n0:Int) (f0:SOp) (tables0:(List (List Int))) (size0:Int):Option (List Int):=
 (Aq (D4 n0 f0 tables0 size0) ((0:Int),Av Int)).bind λq11_9=>
 some q11_9
theorem P9 {n0} {f0} {tables0} {size0} {v} (h:Fh n0 f0 tables0 size0=some v):Ret Try.prog Ih [Ae n0,(Bd false) f0,(slr false 1 (slr false 1 Ae)) tables0,Ae size0] (slr true 1 Ae v):=by
 refine Bn Ahj (Nat.le_of_ble_eq_true rfl) ?_;unfold Fh at h;refine BslQ.o Ae (Av Int) (by exact λ_=>⟨rfl,rfl⟩) (by rfl)<|LoopQ.o [10,9,5,0,2,3] (L1 n0 f0 tables0 size0) (Sb n0 f0 tables0 size0) h (λs o h=>Ab6 s o h) (by rfl) (λ_=>rfl) ?_
 rintro q11_9 h;try dsimp only at h
 cases h;exact (by rfl)
noncomputable def G0 (list0:List Int):(Int×(List Int))->Option ((Int×(List Int)) ⊕ (List Int)):=λ(x12,x3)=>
 if x12<(↑list0.length:Int) then
 ask ((0:Int)<=x12/\x12<(↑list0.length:Int)) <|
 ask ((x3).length+([IntKind.u8.wrap ((nth list0 x12.toNat).fdiv ((2:Int)^min (Int.toNat (8:Int)) IntKind.i64.bits)),IntKind.u8.wrap (nth list0 x12.toNat)]).length<=LIM) <|
 ask (InI (x12+(1:Int))) <|
 some (.inl (x12+(1:Int),x3++[IntKind.u8.wrap ((nth list0 x12.toNat).fdiv ((2:Int)^min (Int.toNat (8:Int)) IntKind.i64.bits)),IntKind.u8.wrap (nth list0 x12.toNat)]))
 else
 some (.inr x3)
def Tq (list0:List Int):(Int×(List Int))->St:=λs=>[(12,A.val (Ae s.1)),(11,A.val (Ae ((↑list0.length:Int)))),(10,A.val (slr false 1 Ae list0)),(3,A.val (slr true 1 (V.int IntKind.u8) s.2))]
def Aav (_list0:List Int):(List Int)->Tgt
 | s=>((Ex.exit 0),[3],[(3,A.val (slr true 1 (V.int IntKind.u8) s))])
theorem Amo {list0} (s) o (h:G0 list0 s=some o):vc Try.prog Aa5 (Ch [12,11,10,3] (Tq list0) (Aav list0) o) (Tq list0 s):=by
 obtain ⟨x12,x3⟩:=s;unfold G0 at h;try dsimp only at h
 refine Br.od h (λp3 h=> ?_) (λp3 h=> ?_)
 ·refine Len.map<|Ask.o h λp4 h=>Elem.o (by first | omega | (simp [Au] at * <;> omega))<|BslQ.o (V.int IntKind.u8) ([IntKind.u8.wrap ((nth list0 x12.toNat).fdiv ((2:Int)^min (Int.toNat (8:Int)) IntKind.i64.bits)),IntKind.u8.wrap (nth list0 x12.toNat)]) (by exact λ_=>⟨rfl,rfl⟩) (by rfl)<|NoOwn.o (λ_=>rfl)<|AppQ.o (m:=1) (V.int IntKind.u8) (by exact λ_=>⟨rfl,rfl⟩) (x3) ([IntKind.u8.wrap ((nth list0 x12.toNat).fdiv ((2:Int)^min (Int.toNat (8:Int)) IntKind.i64.bits)),IntKind.u8.wrap (nth list0 x12.toNat)]) (by rfl) (by rfl) h λh=>Ask.o h λp5 h=> ?_
  cases h;exact ⟨rfl,rfl⟩
 cases h;exact ⟨rfl,rfl⟩
noncomputable def Ij (list0:(List Int)):Option ByteArray:=
 ask (InI ((2:Int)*(↑list0.length:Int))) <|
 ask ((0:Int)<=(2:Int)*(↑list0.length:Int)/\(2:Int)*(↑list0.length:Int)<=(↑LIM:Int)) <|
 (Aq (G0 list0) ((0:Int),Av Int)).bind λq6_3=>
 some (Aa8 q6_3)
theorem T7 {list0} {v} (h:Ij list0=some v):Ret Try.prog L7 [(slr false 1 Ae) list0] (V.str v):=by
 refine Bn At1 (Nat.le_of_ble_eq_true rfl) ?_;unfold Ij at h;refine Len.map<|Ask.o h λp1 h=>Ask.o h λp2 h=>Len.map<|LoopQ.o [12,11,10,3] (Tq list0) (Aav list0) h (λs o h=>Amo s o h) (by rfl) (λ_=>rfl) ?_
 rintro q6_3 h;try dsimp only at h
 refine BsQ.o q6_3 (by rfl) ?_;cases h;exact (by rfl)
noncomputable def Dh (n0:Int):(Int×Int)->Option ((Int×Int) ⊕ Int):=λ(x5,x1)=>
 if x1>(0:Int) then
 ask (InI (x5*n0)) <|
 ask (InI (x1-(1:Int))) <|
 some (.inl (x5*n0,x1-(1:Int)))
 else
 some (.inr x5)
def Tp (n0:Int):(Int×Int)->St:=λs=>[(5,A.val (Ae s.1)),(0,A.val (Ae n0)),(1,A.val (Ae s.2))]
def Aax (_n0:Int):Int->Tgt
 | s=>((Ex.exit 0),[5],[(5,A.val (Ae s))])
theorem Aml {n0} (s) o (h:Dh n0 s=some o):vc Try.prog Aa6 (Ch [5,0,1] (Tp n0) (Aax n0) o) (Tp n0 s):=by
 obtain ⟨x5,x1⟩:=s;unfold Dh at h;try dsimp only at h
 refine Br.od h (λp1 h=> ?_) (λp1 h=> ?_)
 ·refine Ask.o h λp2 h=>Ask.o h λp3 h=> ?_
  cases h;exact ⟨rfl,rfl⟩
 cases h;exact ⟨rfl,rfl⟩
noncomputable def Ea (n0:Int) (k0:Int):Option Int:=
 (Aq (Dh n0) ((1:Int),k0)).bind λq4_5=>
 some q4_5
theorem Ue {n0} {k0} {v} (h:Ea n0 k0=some v):Ret Try.prog Mb [Ae n0,Ae k0] (Ae v):=by
 refine Bn Aue (Nat.le_of_ble_eq_true rfl) ?_;unfold Ea at h;refine LoopQ.o [5,0,1] (Tp n0) (Aax n0) h (λs o h=>Aml s o h) (by rfl) (λ_=>rfl) ?_;rintro q4_5 h;try dsimp only at h
 cases h;exact (by rfl)
noncomputable def Rn (n0:Int):(Int×(List Int)×Int)->Option ((Int×(List Int)×Int) ⊕ (List Int)):=λ(x8,x7,x0)=>
 if x8>=(0:Int) then
 ask (n0≠(0:Int)) <|
 ask ((0:Int)<=x8/\x8<(↑x7.length:Int)) <|
 ask (n0≠(0:Int)/\InI (x0.tdiv n0)) <|
 ask (InI (x8-(1:Int))) <|
 some (.inl (x8-(1:Int),x7.set x8.toNat (x0.tmod n0),x0.tdiv n0))
 else
 some (.inr x7)
def Q9 (n0:Int):(Int×(List Int)×Int)->St:=λs=>[(8,A.val (Ae s.1)),(7,A.val (slr true 1 Ae s.2.1)),(0,A.val (Ae s.2.2)),(2,A.val (Ae n0))]
def X9 (_n0:Int):(List Int)->Tgt
 | s=>((Ex.exit 0),[7],[(7,A.val (slr true 1 Ae s))])
theorem Akv {n0} (s) o (h:Rn n0 s=some o):vc Try.prog Ym (Ch [8,7,0,2] (Q9 n0) (X9 n0) o) (Q9 n0 s):=by
 obtain ⟨x8,x7,x0⟩:=s;unfold Rn at h;try dsimp only at h
 refine Br.od h (λp3 h=> ?_) (λp3 h=> ?_)
 ·refine Ask.o h λp4 h=>Len.map<|Ask.o h λp5 h=>SetKids.one (λ_=>⟨rfl,rfl⟩) (x0.tmod n0) (by rfl) (by first | omega | (simp [Au] at * <;> omega))<|Ask.o h λp6 h=>Ask.o h λp7 h=> ?_
  cases h;exact ⟨rfl,rfl⟩
 cases h;exact ⟨rfl,rfl⟩
noncomputable def Io (i0:Int) (k0:Int) (n0:Int):Option (List Int):=
 ask ((0:Int)<=k0/\k0<=(↑LIM:Int)) <|
 ask (InI (k0-(1:Int))) <|
 (Aq (Rn n0) (k0-(1:Int),List.replicate k0.toNat (0:Int),i0)).bind λq8_7=>
 some q8_7
theorem Xm {i0} {k0} {n0} {v} (h:Io i0 k0 n0=some v):Ret Try.prog M6 [Ae i0,Ae k0,Ae n0] (slr true 1 Ae v):=by
 refine Bn Aqf (Nat.le_of_ble_eq_true rfl) ?_;unfold Io at h;refine Ask.o h λp1 h=>MkQ.o Ae ((0:Int)) rfl<|Ask.o h λp2 h=>LoopQ.o [8,7,0,2] (Q9 n0) (X9 n0) h (λs o h=>Akv s o h) (by rfl) (λ_=>rfl) ?_
 rintro q8_7 h;try dsimp only at h
 cases h;exact (by rfl)
noncomputable def Fd (args0:List Int) (n0:Int):(Int×Int)->Option ((Int×Int) ⊕ Int):=λ(x10,x5)=>
 if x10<(↑args0.length:Int) then
 ask ((0:Int)<=x10/\x10<(↑args0.length:Int)) <|
 ask (InI (x5*n0)) <|
 ask (InI (x5*n0+nth args0 x10.toNat)) <|
 ask (InI (x10+(1:Int))) <|
 some (.inl (x10+(1:Int),x5*n0+nth args0 x10.toNat))
 else
 some (.inr x5)
def Pc (args0:List Int) (n0:Int):(Int×Int)->St:=λs=>[(10,A.val (Ae s.1)),(9,A.val (Ae ((↑args0.length:Int)))),(8,A.val (slr false 1 Ae args0)),(5,A.val (Ae s.2)),(1,A.val (Ae n0))]
def Wz (_args0:List Int) (_n0:Int):Int->Tgt
 | s=>((Ex.exit 0),[5],[(5,A.val (Ae s))])
theorem Ahu {args0} {n0} (s) o (h:Fd args0 n0 s=some o):vc Try.prog W5 (Ch [10,9,8,5,1] (Pc args0 n0) (Wz args0 n0) o) (Pc args0 n0 s):=by
 obtain ⟨x10,x5⟩:=s;unfold Fd at h;try dsimp only at h
 refine Br.od h (λp1 h=> ?_) (λp1 h=> ?_)
 ·refine Len.map<|Ask.o h λp2 h=>Elem.o (by first | omega | (simp [Au] at * <;> omega))<|Ask.o h λp3 h=>Ask.o h λp4 h=>Ask.o h λp5 h=> ?_
  cases h;exact ⟨rfl,rfl⟩
 cases h;exact ⟨rfl,rfl⟩
noncomputable def I8 (args0:(List Int)) (n0:Int):Option Int:=
 (Aq (Fd args0 n0) ((0:Int),(0:Int))).bind λq6_5=>
 some q6_5
theorem Aoj {args0} {n0} {v} (h:I8 args0 n0=some v):Ret Try.prog Ur [(slr false 1 Ae) args0,Ae n0] (Ae v):=by
 refine Bn Ap5 (Nat.le_of_ble_eq_true rfl) ?_;unfold I8 at h;refine Len.map<|LoopQ.o [10,9,8,5,1] (Pc args0 n0) (Wz args0 n0) h (λs o h=>Ahu s o h) (by rfl) (λ_=>rfl) ?_
 rintro q6_5 h;try dsimp only at h
 cases h;exact (by rfl)
end Go.Proofs.Ytaalgpkajkogkaa.Ax
