/-
 What the functions compute, as functions on plain data, and that the program does compute it; written by program.
-/
import Derived.Test.YtmkgjnphianalaaGreatCode
namespace Go.Proofs.YtmkgjnphianalaaGreat.Ax
open Go
set_option maxRecDepth 100000
set_option maxHeartbeats 4000000
noncomputable def Dj (p0:List Int):(Int×Int×(List Int))->Option ((Int×Int×(List Int)) ⊕ (List Int)):=λ(x12,x4,x3)=>
 if x12<(↑p0.length:Int) then
 ask ((0:Int)<=x12/\x12<(↑p0.length:Int)) <|
 if nth p0 x12.toNat=x12 then
 ask ((0:Int)<=x12/\x12<(↑x3.length:Int)) <|
 ask (InI (x4+(1:Int))) <|
 ask (InI (x12+(1:Int))) <|
 some (.inl (x12+(1:Int),x4+(1:Int),x3.set x12.toNat x4))
 else
 ask ((0:Int)<=nth p0 x12.toNat/\nth p0 x12.toNat<(↑x3.length:Int)) <|
 ask ((0:Int)<=x12/\x12<(↑x3.length:Int)) <|
 ask (InI (x12+(1:Int))) <|
 some (.inl (x12+(1:Int),x4,x3.set x12.toNat (nth x3 (nth p0 x12.toNat).toNat)))
 else
 some (.inr x3)
def Lk (p0:List Int):(Int×Int×(List Int))->St:=λs=>[(12,A.val (Af s.1)),(11,A.val (Af ((↑p0.length:Int)))),(10,A.val ((slr false 1 Af) (p0))),(4,A.val (Af s.2.1)),(3,A.val ((slr true 1 Af) s.2.2))]
def Sw (_p0:List Int):(List Int)->Tgt
 | s=>((Ex.exit 0),[3],[(3,A.val ((slr true 1 Af) s))])
theorem Acy {p0:List Int} (s:(Int×Int×(List Int))) (o:(Int×Int×(List Int)) ⊕ (List Int)) (h:Dj p0 s=some o):vc Tryz.prog R2 (Cd [12,11,10,4,3] (Lk p0) (Sw p0) o) (Lk p0 s):=by
 obtain ⟨x12,x4,x3⟩:=s;unfold Dj at h;try dsimp only at h
 refine Br.od h (λp2 h=> ?_) (λp2 h=> ?_)
 ·refine Len.map<|Ask.o h λp3 h=>Elem.o (by first | omega | (simp [Ap] at * <;> omega))<|Br.oe h (λp4 h=> ?_) (λp4 h=> ?_)
  ·refine Len.map<|Ask.o h λp5 h=>SetKids.one (λ_=>⟨rfl,rfl⟩) (x4) (by rfl) (by first | omega | (simp [Ap] at * <;> omega))<|Ask.o h λp6 h=>Ask.o h λp7 h=> ?_
   cases h;exact ⟨rfl,rfl⟩
  refine Len.map<|Ask.o h λp8 h=>Cells.one (λ_=>⟨rfl,rfl⟩) (by first | omega | (simp [Ap] at * <;> omega))<|Len.map<|Ask.o h λp9 h=>SetKids.one (λ_=>⟨rfl,rfl⟩) (nth x3 (nth p0 x12.toNat).toNat) (by rfl) (by first | omega | (simp [Ap] at * <;> omega))<|Ask.o h λp10 h=> ?_
  cases h;exact ⟨rfl,rfl⟩
 cases h;exact ⟨rfl,rfl⟩
noncomputable def Fy (p0:(List Int)):Option (List Int):=
 ask ((0:Int)<=(↑p0.length:Int)/\(↑p0.length:Int)<=(↑LIM:Int)) <|
 (Ak (Dj p0) ((0:Int),(0:Int),List.replicate (↑p0.length:Int).toNat (0:Int))).bind λq11_3=>
 some q11_3
theorem Xh {p0:(List Int)} {v:(List Int)} (h:Fy p0=some v):Ret Tryz.prog Ki [(slr false 1 Af) p0] ((slr true 1 Af) v):=by
 refine A4 Ah7 (Nat.le_of_ble_eq_true rfl) ?_;unfold Fy at h;refine Len.map<|Ask.o h λp1 h=>MkQ.o Af ((0:Int)) rfl<|Len.map<|LoopQ.o [12,11,10,4,3] (Lk p0) (Sw p0) h (λs o h=>Acy s o h) (by rfl) (λ_=>rfl) ?_
 rintro q11_3 h;try dsimp only at h
 cases h;exact (by rfl)
noncomputable def Dg (p0:List Int):(Int×Int)->Option ((Int×Int) ⊕ Int):=λ(x8,x3)=>
 if x8<(↑p0.length:Int) then
 ask ((0:Int)<=x8/\x8<(↑p0.length:Int)) <|
 if nth p0 x8.toNat=x8 then
 ask (InI (x3+(1:Int))) <|
 ask (InI (x8+(1:Int))) <|
 some (.inl (x8+(1:Int),x3+(1:Int)))
 else
 ask (InI (x8+(1:Int))) <|
 some (.inl (x8+(1:Int),x3))
 else
 some (.inr x3)
def Kr (p0:List Int):(Int×Int)->St:=λs=>[(8,A.val (Af s.1)),(7,A.val (Af ((↑p0.length:Int)))),(6,A.val ((slr false 1 Af) (p0))),(3,A.val (Af s.2))]
def Rv (_p0:List Int):Int->Tgt
 | s=>((Ex.exit 0),[3],[(3,A.val (Af s))])
theorem Aea {p0:List Int} (s:(Int×Int)) (o:(Int×Int) ⊕ Int) (h:Dg p0 s=some o):vc Tryz.prog Sy (Cd [8,7,6,3] (Kr p0) (Rv p0) o) (Kr p0 s):=by
 obtain ⟨x8,x3⟩:=s;unfold Dg at h;try dsimp only at h
 refine Br.od h (λp1 h=> ?_) (λp1 h=> ?_)
 ·refine Len.map<|Ask.o h λp2 h=>Elem.o (by first | omega | (simp [Ap] at * <;> omega))<|Br.oe h (λp3 h=> ?_) (λp3 h=> ?_)
  ·refine Ask.o h λp4 h=>Ask.o h λp5 h=> ?_
   cases h;exact ⟨rfl,rfl⟩
  refine Ask.o h λp6 h=> ?_
  cases h;exact ⟨rfl,rfl⟩
 cases h;exact ⟨rfl,rfl⟩
noncomputable def Hv (p0:(List Int)):Option Int:=
 (Ak (Dg p0) ((0:Int),(0:Int))).bind λq7_3=>
 some q7_3
theorem Ai5 {p0:(List Int)} {v:Int} (h:Hv p0=some v):Ret Tryz.prog On [(slr false 1 Af) p0] (Af v):=by
 refine A4 Aje (Nat.le_of_ble_eq_true rfl) ?_;unfold Hv at h;refine Len.map<|LoopQ.o [8,7,6,3] (Kr p0) (Rv p0) h (λs o h=>Aea s o h) (by rfl) (λ_=>rfl) ?_
 rintro q7_3 h;try dsimp only at h
 cases h;exact (by rfl)
noncomputable def F9 (p0:List Int):(Int×Int×(List Int))->Option ((Int×Int×(List Int)) ⊕ (List Int)):=λ(x5,x4,x3)=>
 if x5<(↑p0.length:Int) then
 ask ((0:Int)<=x5/\x5<(↑p0.length:Int)) <|
 if nth p0 x5.toNat=x5 then
 ask ((x3).length+([x4]).length<=LIM) <|
 ask (InI (x4+(1:Int))) <|
 ask (InI (x5+(1:Int))) <|
 some (.inl (x5+(1:Int),x4+(1:Int),x3++[x4]))
 else
 ask ((0:Int)<=x5/\x5<(↑p0.length:Int)) <|
 ask ((0:Int)<=nth p0 x5.toNat/\nth p0 x5.toNat<(↑x3.length:Int)) <|
 ask ((x3).length+([nth x3 (nth p0 x5.toNat).toNat]).length<=LIM) <|
 ask (InI (x5+(1:Int))) <|
 some (.inl (x5+(1:Int),x4,x3++[nth x3 (nth p0 x5.toNat).toNat]))
 else
 some (.inr x3)
def Tt (p0:List Int):(Int×Int×(List Int))->St:=λs=>[(5,A.val (Af s.1)),(4,A.val (Af s.2.1)),(3,A.val ((slr true 1 Af) s.2.2)),(0,A.val ((slr false 1 Af) (p0)))]
def Abs (_p0:List Int):(List Int)->Tgt
 | s=>((Ex.exit 0),[3],[(3,A.val ((slr true 1 Af) s))])
theorem Amy {p0:List Int} (s:(Int×Int×(List Int))) (o:(Int×Int×(List Int)) ⊕ (List Int)) (h:F9 p0 s=some o):vc Tryz.prog Aby (Cd [5,4,3,0] (Tt p0) (Abs p0) o) (Tt p0 s):=by
 obtain ⟨x5,x4,x3⟩:=s;unfold F9 at h;try dsimp only at h
 refine Len.map<|Br.od h (λp1 h=> ?_) (λp1 h=> ?_)
 ·refine Len.map<|Ask.o h λp2 h=>Elem.o (by first | omega | (simp [Ap] at * <;> omega))<|Br.oe h (λp3 h=> ?_) (λp3 h=> ?_)
  ·refine BslQ.o Af [x4] (by exact λ_=>⟨rfl,rfl⟩) (by first | rfl | (simp only [Aa,V.fz,fzL,V.up,upL,Ab,Ac,Ad,slr,List.cons_append,List.nil_append];done) | simp [Aa,V.fz,fzL,V.up,upL,Ab,Ac,Ad,slr])<|NoOwn.o (λ_=>rfl)<|AppQ.o (m:=1) Af (by exact λ_=>⟨rfl,rfl⟩) (x3) ([x4]) (by rfl) (by rfl) h λh=>Ask.o h λp4 h=>Ask.o h λp5 h=> ?_
   cases h;exact ⟨rfl,rfl⟩
  refine Len.map<|Ask.o h λp6 h=>Elem.o (by first | omega | (simp [Ap] at * <;> omega))<|Len.map<|Ask.o h λp7 h=>Cells.one (λ_=>⟨rfl,rfl⟩) (by first | omega | (simp [Ap] at * <;> omega))<|BslQ.o Af ([nth x3 (nth p0 x5.toNat).toNat]) (by exact λ_=>⟨rfl,rfl⟩) (by first | rfl | (simp only [Aa,V.fz,fzL,V.up,upL,Ab,Ac,Ad,slr,List.cons_append,List.nil_append];done) | simp [Aa,V.fz,fzL,V.up,upL,Ab,Ac,Ad,slr])<|NoOwn.o (λ_=>rfl)<|AppQ.o (m:=1) Af (by exact λ_=>⟨rfl,rfl⟩) (x3) ([nth x3 (nth p0 x5.toNat).toNat]) (by rfl) (by rfl) h λh=>Ask.o h λp8 h=> ?_
  cases h;exact ⟨rfl,rfl⟩
 cases h;exact ⟨rfl,rfl⟩
noncomputable def O4 (p0:(List Int)):Option (List Int):=
 (Ak (F9 p0) ((0:Int),(0:Int),Aw Int)).bind λq9_3=>
 some q9_3
theorem Ayl {p0:(List Int)} {v:(List Int)} (h:O4 p0=some v):Ret Tryz.prog Abo [(slr false 1 Af) p0] ((slr true 1 Af) v):=by
 refine A4 Ayu (Nat.le_of_ble_eq_true rfl) ?_;unfold O4 at h;refine BslQ.o Af (Aw Int) (by exact λ_=>⟨rfl,rfl⟩) (by first | rfl | (simp only [Aa,V.fz,fzL,V.up,upL,Ab,Ac,Ad,slr,List.cons_append,List.nil_append];done) | simp [Aa,V.fz,fzL,V.up,upL,Ab,Ac,Ad,slr])<|LoopQ.o [5,4,3,0] (Tt p0) (Abs p0) h (λs o h=>Amy s o h) (by rfl) (λ_=>rfl) ?_
 rintro q9_3 h;try dsimp only at h
 cases h;exact (by rfl)
noncomputable def Fh (list0:(List Int)):Option (List Int):=
 ask ((Aw Int).length+(list0).length<=LIM) <|
 some (Aw Int++list0)
theorem Oi {list0:(List Int)} {v:(List Int)} (h:Fh list0=some v):Ret Tryz.prog L0 [(slr false 1 Af) list0] ((slr true 1 Af) v):=by
 refine A4 Ayn (Nat.le_of_ble_eq_true rfl) ?_;unfold Fh at h;refine BslQ.o Af (Aw Int) (by exact λ_=>⟨rfl,rfl⟩) (by first | rfl | (simp only [Aa,V.fz,fzL,V.up,upL,Ab,Ac,Ad,slr,List.cons_append,List.nil_append];done) | simp [Aa,V.fz,fzL,V.up,upL,Ab,Ac,Ad,slr])<|AppQ.o (m:=1) Af (by exact λ_=>⟨rfl,rfl⟩) (Aw Int) (list0) (by rfl) (by rfl) h λh=> ?_
 cases h;exact (by rfl)
noncomputable def F5 (n0:Int):(Int×Int)->Option ((Int×Int) ⊕ Int):=λ(x5,x1)=>
 if x1>(0:Int) then
 ask (InI (x5*n0)) <|
 ask (InI (x1-(1:Int))) <|
 some (.inl (x5*n0,x1-(1:Int)))
 else
 some (.inr x5)
def T7 (n0:Int):(Int×Int)->St:=λs=>[(5,A.val (Af s.1)),(0,A.val (Af (n0))),(1,A.val (Af s.2))]
def Abw (_n0:Int):Int->Tgt
 | s=>((Ex.exit 0),[5],[(5,A.val (Af s))])
theorem Am2 {n0:Int} (s:(Int×Int)) (o:(Int×Int) ⊕ Int) (h:F5 n0 s=some o):vc Tryz.prog Ab6 (Cd [5,0,1] (T7 n0) (Abw n0) o) (T7 n0 s):=by
 obtain ⟨x5,x1⟩:=s;unfold F5 at h;try dsimp only at h
 refine Br.od h (λp1 h=> ?_) (λp1 h=> ?_)
 ·refine Ask.o h λp2 h=>Ask.o h λp3 h=> ?_
  cases h;exact ⟨rfl,rfl⟩
 cases h;exact ⟨rfl,rfl⟩
noncomputable def I8 (n0:Int) (k0:Int):Option Int:=
 (Ak (F5 n0) ((1:Int),k0)).bind λq4_5=>
 some q4_5
theorem Ait {n0:Int} {k0:Int} {v:Int} (h:I8 n0 k0=some v):Ret Tryz.prog Uj [Af n0,Af k0] (Af v):=by
 refine A4 Axp (Nat.le_of_ble_eq_true rfl) ?_;unfold I8 at h;refine LoopQ.o [5,0,1] (T7 n0) (Abw n0) h (λs o h=>Am2 s o h) (by rfl) (λ_=>rfl) ?_;rintro q4_5 h;try dsimp only at h
 cases h;exact (by rfl)
noncomputable def Fe (list0:List Int) (n0:Int):Int->Option (Int ⊕ (Unit ⊕ Unit)):=λx9=>
 if x9<(↑list0.length:Int) then
 ask ((0:Int)<=x9/\x9<(↑list0.length:Int)) <|
 if nth list0 x9.toNat<(0:Int) then
 some (.inr (.inl ()))
 else
 if nth list0 x9.toNat>=n0 then
 some (.inr (.inl ()))
 else
 ask (InI (x9+(1:Int))) <|
 some (.inl (x9+(1:Int)))
 else
 some (.inr (.inr ()))
def Q9 (list0:List Int) (n0:Int):Int->St:=λs=>[(9,A.val (Af s)),(8,A.val (Af ((↑list0.length:Int)))),(7,A.val ((slr false 1 Af) (list0))),(1,A.val (Af (n0)))]
def Y9 (_list0:List Int) (_n0:Int):(Unit ⊕ Unit)->Tgt
 | (.inl _s)=>(Ex.ret,[4],[(4,A.val (V.bool (false)))])
 | (.inr _s)=>((Ex.exit 0),[],[])
theorem Alt {list0:List Int} {n0:Int} (x9:Int) (o:Int ⊕ (Unit ⊕ Unit)) (h:Fe list0 n0 x9=some o):vc Tryz.prog Y0 (Cd [9,8,7,1] (Q9 list0 n0) (Y9 list0 n0) o) (Q9 list0 n0 x9):=by
 unfold Fe at h;try dsimp only at h
 refine Br.od h (λp1 h=> ?_) (λp1 h=> ?_)
 ·refine Len.map<|Ask.o h λp2 h=>Elem.o (by first | omega | (simp [Ap] at * <;> omega))<|Br.od h (λp3 h=> ?_) (λp3 h=> ?_)
  ·refine Br.yes<|Br.yes<|Br.yes<|Br.yes ?_
   cases h;exact ⟨rfl,rfl⟩
  refine Br.no<|Br.no<|Br.no<|Br.od h (λp4 h=> ?_) (λp4 h=> ?_)
  ·cases h;exact ⟨rfl,rfl⟩
  refine Ask.o h λp5 h=> ?_
  cases h;exact ⟨rfl,rfl⟩
 cases h;exact ⟨rfl,rfl⟩
noncomputable def J0 (list0:(List Int)) (n0:Int):Option Bool:=
 (Ak (Fe list0 n0) (0:Int)).bind λt=>match t with
 | (.inl _)=>(some false)
 | (.inr _)=>(some true)
theorem Afb {list0:(List Int)} {n0:Int} {v:Bool} (h:J0 list0 n0=some v):Ret Tryz.prog Rq [(slr false 1 Af) list0,Af n0] (V.bool v):=by
 refine A4 Atq (Nat.le_of_ble_eq_true rfl) ?_;unfold J0 at h;refine Len.map<|LoopQ.o [9,8,7,1] (Q9 list0 n0) (Y9 list0 n0) h (λs o h=>Alt s o h) (by rfl) (by rintro (_ | _)<;>rfl) ?_
 rintro (⟨⟩ | ⟨⟩) h
 ·try dsimp only at h
  cases h;exact (by rfl)
 try dsimp only at h
 cases h;exact (by rfl)
noncomputable def Rd (n0:Int):(Int×(List Int)×Int)->Option ((Int×(List Int)×Int) ⊕ (List Int)):=λ(x8,x7,x0)=>
 if x8>=(0:Int) then
 ask (n0≠(0:Int)) <|
 ask ((0:Int)<=x8/\x8<(↑x7.length:Int)) <|
 ask (n0≠(0:Int)/\InI (x0.tdiv n0)) <|
 ask (InI (x8-(1:Int))) <|
 some (.inl (x8-(1:Int),x7.set x8.toNat (x0.tmod n0),x0.tdiv n0))
 else
 some (.inr x7)
def Q2 (n0:Int):(Int×(List Int)×Int)->St:=λs=>[(8,A.val (Af s.1)),(7,A.val ((slr true 1 Af) s.2.1)),(0,A.val (Af s.2.2)),(2,A.val (Af (n0)))]
def Aaq (_n0:Int):(List Int)->Tgt
 | s=>((Ex.exit 0),[7],[(7,A.val ((slr true 1 Af) s))])
theorem Alq {n0:Int} (s:(Int×(List Int)×Int)) (o:(Int×(List Int)×Int) ⊕ (List Int)) (h:Rd n0 s=some o):vc Tryz.prog Yv (Cd [8,7,0,2] (Q2 n0) (Aaq n0) o) (Q2 n0 s):=by
 obtain ⟨x8,x7,x0⟩:=s;unfold Rd at h;try dsimp only at h
 refine Br.od h (λp3 h=> ?_) (λp3 h=> ?_)
 ·refine Ask.o h λp4 h=>Len.map<|Ask.o h λp5 h=>SetKids.one (λ_=>⟨rfl,rfl⟩) (x0.tmod n0) (by rfl) (by first | omega | (simp [Ap] at * <;> omega))<|Ask.o h λp6 h=>Ask.o h λp7 h=> ?_
  cases h;exact ⟨rfl,rfl⟩
 cases h;exact ⟨rfl,rfl⟩
noncomputable def J2 (i0:Int) (k0:Int) (n0:Int):Option (List Int):=
 ask ((0:Int)<=k0/\k0<=(↑LIM:Int)) <|
 ask (InI (k0-(1:Int))) <|
 (Ak (Rd n0) (k0-(1:Int),List.replicate k0.toNat (0:Int),i0)).bind λq8_7=>
 some q8_7
theorem Afd {i0:Int} {k0:Int} {n0:Int} {v:(List Int)} (h:J2 i0 k0 n0=some v):Ret Tryz.prog Rn [Af i0,Af k0,Af n0] ((slr true 1 Af) v):=by
 refine A4 Atj (Nat.le_of_ble_eq_true rfl) ?_;unfold J2 at h;refine Ask.o h λp1 h=>MkQ.o Af ((0:Int)) rfl<|Ask.o h λp2 h=>LoopQ.o [8,7,0,2] (Q2 n0) (Aaq n0) h (λs o h=>Alq s o h) (by rfl) (λ_=>rfl) ?_
 rintro q8_7 h;try dsimp only at h
 cases h;exact (by rfl)
noncomputable def Eu (args0:List Int) (n0:Int):(Int×Int)->Option ((Int×Int) ⊕ Int):=λ(x10,x5)=>
 if x10<(↑args0.length:Int) then
 ask ((0:Int)<=x10/\x10<(↑args0.length:Int)) <|
 ask (InI (x5*n0)) <|
 ask (InI (x5*n0+nth args0 x10.toNat)) <|
 ask (InI (x10+(1:Int))) <|
 some (.inl (x10+(1:Int),x5*n0+nth args0 x10.toNat))
 else
 some (.inr x5)
def Oh (args0:List Int) (n0:Int):(Int×Int)->St:=λs=>[(10,A.val (Af s.1)),(9,A.val (Af ((↑args0.length:Int)))),(8,A.val ((slr false 1 Af) (args0))),(5,A.val (Af s.2)),(1,A.val (Af (n0)))]
def W7 (_args0:List Int) (_n0:Int):Int->Tgt
 | s=>((Ex.exit 0),[5],[(5,A.val (Af s))])
theorem Aid {args0:List Int} {n0:Int} (s:(Int×Int)) (o:(Int×Int) ⊕ Int) (h:Eu args0 n0 s=some o):vc Tryz.prog Xl (Cd [10,9,8,5,1] (Oh args0 n0) (W7 args0 n0) o) (Oh args0 n0 s):=by
 obtain ⟨x10,x5⟩:=s;unfold Eu at h;try dsimp only at h
 refine Br.od h (λp1 h=> ?_) (λp1 h=> ?_)
 ·refine Len.map<|Ask.o h λp2 h=>Elem.o (by first | omega | (simp [Ap] at * <;> omega))<|Ask.o h λp3 h=>Ask.o h λp4 h=>Ask.o h λp5 h=> ?_
  cases h;exact ⟨rfl,rfl⟩
 cases h;exact ⟨rfl,rfl⟩
noncomputable def Im (args0:(List Int)) (n0:Int):Option Int:=
 (Ak (Eu args0 n0) ((0:Int),(0:Int))).bind λq6_5=>
 some q6_5
theorem Ada {args0:(List Int)} {n0:Int} {v:Int} (h:Im args0 n0=some v):Ret Tryz.prog O9 [(slr false 1 Af) args0,Af n0] (Af v):=by
 refine A4 Aqf (Nat.le_of_ble_eq_true rfl) ?_;unfold Im at h;refine Len.map<|LoopQ.o [10,9,8,5,1] (Oh args0 n0) (W7 args0 n0) h (λs o h=>Aid s o h) (by rfl) (λ_=>rfl) ?_
 rintro q6_5 h;try dsimp only at h
 cases h;exact (by rfl)
noncomputable def Ht (x0:Int) (a0:Int) (b0:Int):Option Bool:=
 if x0>=a0 then
 some (decide (x0<=b0))
 else
 some false
theorem Si {x0:Int} {a0:Int} {b0:Int} {v:Bool} (h:Ht x0 a0 b0=some v):Ret Tryz.prog K8 [Af x0,Af a0,Af b0] (V.bool v):=by
 refine A4 Azk (Nat.le_of_ble_eq_true rfl) ?_;unfold Ht at h;refine Br.od h (λp1 h=> ?_) (λp1 h=> ?_)
 ·refine Br.yes<|Br.yes<|Br.yes ?_
  cases h;exact (by rfl)
 refine Br.no<|Br.no<|Br.no ?_
 cases h;exact (by rfl)
noncomputable def Em (l0:(List Int)):Option (List Int):=
 ask ((Aw Int).length+(l0).length<=LIM) <|
 some (Aw Int++l0)
theorem Pp {l0:(List Int)} {v:(List Int)} (h:Em l0=some v):Ret Tryz.prog Ja [(slr false 1 Af) l0] ((slr true 1 Af) v):=by
 refine A4 Aw9 (Nat.le_of_ble_eq_true rfl) ?_;unfold Em at h;refine BslQ.o Af (Aw Int) (by exact λ_=>⟨rfl,rfl⟩) (by first | rfl | (simp only [Aa,V.fz,fzL,V.up,upL,Ab,Ac,Ad,slr,List.cons_append,List.nil_append];done) | simp [Aa,V.fz,fzL,V.up,upL,Ab,Ac,Ad,slr])<|AppQ.o (m:=1) Af (by exact λ_=>⟨rfl,rfl⟩) (Aw Int) (l0) (by rfl) (by rfl) h λh=> ?_
 cases h;exact (by rfl)
noncomputable def Dz (list0:List Int):Int->Option (Int ⊕ (Unit ⊕ Unit)):=λx3=>
 if x3<(↑list0.length:Int) then
 ask (InI (x3-(1:Int))) <|
 ask ((0:Int)<=x3-(1:Int)/\x3-(1:Int)<(↑list0.length:Int)) <|
 ask ((0:Int)<=x3/\x3<(↑list0.length:Int)) <|
 if nth list0 (x3-(1:Int)).toNat>=nth list0 x3.toNat then
 some (.inr (.inl ()))
 else
 ask (InI (x3+(1:Int))) <|
 some (.inl (x3+(1:Int)))
 else
 some (.inr (.inr ()))
def Tk (list0:List Int):Int->St:=λs=>[(3,A.val (Af s)),(0,A.val ((slr false 1 Af) (list0)))]
def Ace (_list0:List Int):(Unit ⊕ Unit)->Tgt
 | (.inl _s)=>(Ex.ret,[2],[(2,A.val (V.bool (false)))])
 | (.inr _s)=>((Ex.exit 0),[],[])
theorem An6 {list0:List Int} (x3:Int) (o:Int ⊕ (Unit ⊕ Unit)) (h:Dz list0 x3=some o):vc Tryz.prog Abx (Cd [3,0] (Tk list0) (Ace list0) o) (Tk list0 x3):=by
 unfold Dz at h;try dsimp only at h
 refine Len.map<|Br.od h (λp1 h=> ?_) (λp1 h=> ?_)
 ·refine Ask.o h λp2 h=>Len.map<|Ask.o h λp3 h=>Elem.o (by first | omega | (simp [Ap] at * <;> omega))<|Len.map<|Ask.o h λp4 h=>Elem.o (by first | omega | (simp [Ap] at * <;> omega))<|Br.od h (λp5 h=> ?_) (λp5 h=> ?_)
  ·cases h;exact ⟨rfl,rfl⟩
  refine Ask.o h λp6 h=> ?_
  cases h;exact ⟨rfl,rfl⟩
 cases h;exact ⟨rfl,rfl⟩
noncomputable def Of (list0:(List Int)):Option Bool:=
 (Ak (Dz list0) (1:Int)).bind λt=>match t with
 | (.inl _)=>(some false)
 | (.inr _)=>(some true)
theorem Ayi {list0:(List Int)} {v:Bool} (h:Of list0=some v):Ret Tryz.prog Aba [(slr false 1 Af) list0] (V.bool v):=by
 refine A4 Axx (Nat.le_of_ble_eq_true rfl) ?_;unfold Of at h;refine LoopQ.o [3,0] (Tk list0) (Ace list0) h (λs o h=>An6 s o h) (by rfl) (by rintro (_ | _)<;>rfl) ?_;rintro (⟨⟩ | ⟨⟩) h
 ·try dsimp only at h
  cases h;exact (by rfl)
 try dsimp only at h
 cases h;exact (by rfl)
noncomputable def Hk (list0:List Int):(Int×(List Bool))->Option ((Int×(List Bool)) ⊕ (List Bool)):=λ(x12,x5)=>
 if x12<(↑list0.length:Int) then
 ask ((0:Int)<=x12/\x12<(↑list0.length:Int)) <|
 ask ((0:Int)<=nth list0 x12.toNat/\nth list0 x12.toNat<(↑x5.length:Int)) <|
 ask (InI (x12+(1:Int))) <|
 some (.inl (x12+(1:Int),x5.set (nth list0 x12.toNat).toNat true))
 else
 some (.inr x5)
def Tl (list0:List Int):(Int×(List Bool))->St:=λs=>[(12,A.val (Af s.1)),(11,A.val (Af ((↑list0.length:Int)))),(10,A.val ((slr false 1 Af) (list0))),(5,A.val ((slr true 1 V.bool) s.2))]
def Ab5 (_list0:List Int):(List Bool)->Tgt
 | s=>((Ex.exit 0),[5],[(5,A.val ((slr true 1 V.bool) s))])
theorem Ana {list0:List Int} (s:(Int×(List Bool))) (o:(Int×(List Bool)) ⊕ (List Bool)) (h:Hk list0 s=some o):vc Tryz.prog Acb (Cd [12,11,10,5] (Tl list0) (Ab5 list0) o) (Tl list0 s):=by
 obtain ⟨x12,x5⟩:=s;unfold Hk at h;try dsimp only at h
 refine Br.od h (λp2 h=> ?_) (λp2 h=> ?_)
 ·refine Len.map<|Ask.o h λp3 h=>Elem.o (by first | omega | (simp [Ap] at * <;> omega))<|Len.map<|Ask.o h λp4 h=>SetKids.one (λ_=>⟨rfl,rfl⟩) (true) (by rfl) (by first | omega | (simp [Ap] at * <;> omega))<|Ask.o h λp5 h=> ?_
  cases h;exact ⟨rfl,rfl⟩
 cases h;exact ⟨rfl,rfl⟩
noncomputable def I5 (list0:(List Int)) (n0:Int):Option (List Bool):=
 ask ((0:Int)<=n0/\n0<=(↑LIM:Int)) <|
 (Ak (Hk list0) ((0:Int),List.replicate n0.toNat false)).bind λq6_5=>
 some q6_5
theorem Aa2 {list0:(List Int)} {n0:Int} {v:(List Bool)} (h:I5 list0 n0=some v):Ret Tryz.prog O3 [(slr false 1 Af) list0,Af n0] ((slr true 1 V.bool) v):=by
 refine A4 Ax1 (Nat.le_of_ble_eq_true rfl) ?_;unfold I5 at h;refine Ask.o h λp1 h=>MkQ.o V.bool (false) rfl<|Len.map<|LoopQ.o [12,11,10,5] (Tl list0) (Ab5 list0) h (λs o h=>Ana s o h) (by rfl) (λ_=>rfl) ?_
 rintro q6_5 h;try dsimp only at h
 cases h;exact (by rfl)
noncomputable def Gc (n0:Int):(Int×Int)->Option ((Int×Int) ⊕ Int):=λ(x5,x1)=>
 if x1>(0:Int) then
 ask (InI (x5*n0)) <|
 ask (InI (x1-(1:Int))) <|
 some (.inl (x5*n0,x1-(1:Int)))
 else
 some (.inr x5)
def Tx (n0:Int):(Int×Int)->St:=λs=>[(5,A.val (Af s.1)),(0,A.val (Af (n0))),(1,A.val (Af s.2))]
def Ab7 (_n0:Int):Int->Tgt
 | s=>((Ex.exit 0),[5],[(5,A.val (Af s))])
theorem Aov {n0:Int} (s:(Int×Int)) (o:(Int×Int) ⊕ Int) (h:Gc n0 s=some o):vc Tryz.prog Abp (Cd [5,0,1] (Tx n0) (Ab7 n0) o) (Tx n0 s):=by
 obtain ⟨x5,x1⟩:=s;unfold Gc at h;try dsimp only at h
 refine Br.od h (λp1 h=> ?_) (λp1 h=> ?_)
 ·refine Ask.o h λp2 h=>Ask.o h λp3 h=> ?_
  cases h;exact ⟨rfl,rfl⟩
 cases h;exact ⟨rfl,rfl⟩
noncomputable def Hp (n0:Int) (k0:Int):Option Int:=
 (Ak (Gc n0) ((1:Int),k0)).bind λq4_5=>
 some q4_5
theorem Abi {n0:Int} {k0:Int} {v:Int} (h:Hp n0 k0=some v):Ret Tryz.prog Og [Af n0,Af k0] (Af v):=by
 refine A4 Ayo (Nat.le_of_ble_eq_true rfl) ?_;unfold Hp at h;refine LoopQ.o [5,0,1] (Tx n0) (Ab7 n0) h (λs o h=>Aov s o h) (by rfl) (λ_=>rfl) ?_;rintro q4_5 h;try dsimp only at h
 cases h;exact (by rfl)
noncomputable def Et (p0:List Int):(Int×(List Int))->Option ((Int×(List Int)) ⊕ (List Int)):=λ(x9,x3)=>
 if x9<(↑p0.length:Int) then
 ask ((0:Int)<=x9/\x9<(↑p0.length:Int)) <|
 if nth p0 x9.toNat=x9 then
 ask ((x3).length+([nth p0 x9.toNat]).length<=LIM) <|
 ask (InI (x9+(1:Int))) <|
 some (.inl (x9+(1:Int),x3++[nth p0 x9.toNat]))
 else
 ask (InI (x9+(1:Int))) <|
 some (.inl (x9+(1:Int),x3))
 else
 some (.inr x3)
def Pl (p0:List Int):(Int×(List Int))->St:=λs=>[(9,A.val (Af s.1)),(8,A.val (Af ((↑p0.length:Int)))),(7,A.val ((slr false 1 Af) (p0))),(3,A.val ((slr true 1 Af) s.2))]
def Xm (_p0:List Int):(List Int)->Tgt
 | s=>((Ex.exit 0),[3],[(3,A.val ((slr true 1 Af) s))])
theorem Ajq {p0:List Int} (s:(Int×(List Int))) (o:(Int×(List Int)) ⊕ (List Int)) (h:Et p0 s=some o):vc Tryz.prog Xb (Cd [9,8,7,3] (Pl p0) (Xm p0) o) (Pl p0 s):=by
 obtain ⟨x9,x3⟩:=s;unfold Et at h;try dsimp only at h
 refine Br.od h (λp1 h=> ?_) (λp1 h=> ?_)
 ·refine Len.map<|Ask.o h λp2 h=>Elem.o (by first | omega | (simp [Ap] at * <;> omega))<|Br.oe h (λp3 h=> ?_) (λp3 h=> ?_)
  ·refine BslQ.o Af ([nth p0 x9.toNat]) (by exact λ_=>⟨rfl,rfl⟩) (by first | rfl | (simp only [Aa,V.fz,fzL,V.up,upL,Ab,Ac,Ad,slr,List.cons_append,List.nil_append];done) | simp [Aa,V.fz,fzL,V.up,upL,Ab,Ac,Ad,slr])<|NoOwn.o (λ_=>rfl)<|AppQ.o (m:=1) Af (by exact λ_=>⟨rfl,rfl⟩) (x3) ([nth p0 x9.toNat]) (by rfl) (by rfl) h λh=>Ask.o h λp4 h=> ?_
   cases h;exact ⟨rfl,rfl⟩
  refine Ask.o h λp5 h=> ?_
  cases h;exact ⟨rfl,rfl⟩
 cases h;exact ⟨rfl,rfl⟩
noncomputable def K6 (p0:(List Int)):Option (List Int):=
 (Ak (Et p0) ((0:Int),Aw Int)).bind λq6_3=>
 some q6_3
theorem Aqe {p0:(List Int)} {v:(List Int)} (h:K6 p0=some v):Ret Tryz.prog Wc [(slr false 1 Af) p0] ((slr true 1 Af) v):=by
 refine A4 Asn (Nat.le_of_ble_eq_true rfl) ?_;unfold K6 at h;refine BslQ.o Af (Aw Int) (by exact λ_=>⟨rfl,rfl⟩) (by first | rfl | (simp only [Aa,V.fz,fzL,V.up,upL,Ab,Ac,Ad,slr,List.cons_append,List.nil_append];done) | simp [Aa,V.fz,fzL,V.up,upL,Ab,Ac,Ad,slr])<|Len.map<|LoopQ.o [9,8,7,3] (Pl p0) (Xm p0) h (λs o h=>Ajq s o h) (by rfl) (λ_=>rfl) ?_
 rintro q6_3 h;try dsimp only at h
 cases h;exact (by rfl)
noncomputable def Fa (n0:Int):(Int×(List Int)×Int)->Option ((Int×(List Int)×Int) ⊕ (List Int)):=λ(x8,x7,x2)=>
 if x8>=(0:Int) then
 ask (n0≠(0:Int)) <|
 ask ((0:Int)<=x8/\x8<(↑x7.length:Int)) <|
 ask (n0≠(0:Int)/\InI (x2.tdiv n0)) <|
 ask (InI (x8-(1:Int))) <|
 some (.inl (x8-(1:Int),x7.set x8.toNat (x2.tmod n0),x2.tdiv n0))
 else
 some (.inr x7)
def Rc (n0:Int):(Int×(List Int)×Int)->St:=λs=>[(8,A.val (Af s.1)),(7,A.val ((slr true 1 Af) s.2.1)),(0,A.val (Af (n0))),(2,A.val (Af s.2.2))]
def Zy (_n0:Int):(List Int)->Tgt
 | s=>((Ex.exit 0),[7],[(7,A.val ((slr true 1 Af) s))])
theorem Ak0 {n0:Int} (s:(Int×(List Int)×Int)) (o:(Int×(List Int)×Int) ⊕ (List Int)) (h:Fa n0 s=some o):vc Tryz.prog Zp (Cd [8,7,0,2] (Rc n0) (Zy n0) o) (Rc n0 s):=by
 obtain ⟨x8,x7,x2⟩:=s;unfold Fa at h;try dsimp only at h
 refine Br.od h (λp3 h=> ?_) (λp3 h=> ?_)
 ·refine Ask.o h λp4 h=>Len.map<|Ask.o h λp5 h=>SetKids.one (λ_=>⟨rfl,rfl⟩) (x2.tmod n0) (by rfl) (by first | omega | (simp [Ap] at * <;> omega))<|Ask.o h λp6 h=>Ask.o h λp7 h=> ?_
  cases h;exact ⟨rfl,rfl⟩
 cases h;exact ⟨rfl,rfl⟩
noncomputable def H9 (n0:Int) (arity0:Int) (at0:Int):Option (List Int):=
 ask ((0:Int)<=arity0/\arity0<=(↑LIM:Int)) <|
 ask (InI (arity0-(1:Int))) <|
 (Ak (Fa n0) (arity0-(1:Int),List.replicate arity0.toNat (0:Int),at0)).bind λq8_7=>
 some q8_7
theorem Afj {n0:Int} {arity0:Int} {at0:Int} {v:(List Int)} (h:H9 n0 arity0 at0=some v):Ret Tryz.prog Rf [Af n0,Af arity0,Af at0] ((slr true 1 Af) v):=by
 refine A4 As1 (Nat.le_of_ble_eq_true rfl) ?_;unfold H9 at h;refine Ask.o h λp1 h=>MkQ.o Af ((0:Int)) rfl<|Ask.o h λp2 h=>LoopQ.o [8,7,0,2] (Rc n0) (Zy n0) h (λs o h=>Ak0 s o h) (by rfl) (λ_=>rfl) ?_
 rintro q8_7 h;try dsimp only at h
 cases h;exact (by rfl)
end Go.Proofs.YtmkgjnphianalaaGreat.Ax
