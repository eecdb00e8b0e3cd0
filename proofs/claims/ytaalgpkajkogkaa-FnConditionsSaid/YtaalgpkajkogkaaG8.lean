/-
 What the functions compute, as functions on plain data, and that the program does compute it; written by program.
-/
import Derived.Test.YtaalgpkajkogkaaCode
import Derived.Test.YtaalgpkajkogkaaG1
import Derived.Test.YtaalgpkajkogkaaG5
import Derived.Test.YtaalgpkajkogkaaG6
namespace Go.Proofs.Ytaalgpkajkogkaa.Ax
open Go
set_option maxRecDepth 100000
set_option maxHeartbeats 4000000
noncomputable def D1 (n0:Int) (row0:List Int) (c0:SCondition) (_patterns0:List (List Int)) (x9:Int) (r3:Int) (r7:Int) (x12:Int):Int->Option (Int ⊕ (Unit ⊕ Unit)):=λx13=>
 if x13<n0 then
 ask ((0:Int)<=x9/\x9<(↑c0.Rules.length:Int)) <|
 ask ((0:Int)<=(0:Int)/\(0:Int)<(↑(nth c0.Rules x9.toNat).Right.length:Int)) <|
 ask ((0:Int)<=nth (nth c0.Rules x9.toNat).Right (Int.toNat (0:Int))/\nth (nth c0.Rules x9.toNat).Right (Int.toNat (0:Int))<(↑[x12,x13].length:Int)) <|
 ((ask ((0:Int)<=x9/\x9<(↑c0.Rules.length:Int)) <|
 if (↑(nth c0.Rules x9.toNat).Right.length:Int)>(1:Int) then
 ask (InI (x12*n0)) <|
 ask (InI (r7*n0*n0+x12*n0)) <|
 ask (InI (r7*n0*n0+x12*n0+x13)) <|
 ask ((0:Int)<=r7*n0*n0+x12*n0+x13/\r7*n0*n0+x12*n0+x13<(↑row0.length:Int)) <|
 some (nth row0 (r7*n0*n0+x12*n0+x13).toNat)
 else
 some (nth [x12,x13] (nth (nth c0.Rules x9.toNat).Right (Int.toNat (0:Int))).toNat):Option Int)).bind λq21_14=>
 ask (InI (x12*n0)) <|
 ask (InI (r3*n0*n0+x12*n0)) <|
 ask (InI (r3*n0*n0+x12*n0+x13)) <|
 ask ((0:Int)<=r3*n0*n0+x12*n0+x13/\r3*n0*n0+x12*n0+x13<(↑row0.length:Int)) <|
 if nth row0 (r3*n0*n0+x12*n0+x13).toNat≠q21_14 then
 some (.inr (.inl ()))
 else
 ask (InI (x13+(1:Int))) <|
 some (.inl (x13+(1:Int)))
 else
 some (.inr (.inr ()))
def N1 (n0:Int) (row0:List Int) (c0:SCondition) (patterns0:List (List Int)) (x9:Int) (r3:Int) (r7:Int) (x12:Int):Int->St:=λs=>[(13,A.val (Ae s)),(12,A.val (Ae x12)),(11,A.val (Ae (r7*n0*n0))),(10,A.val (Ae (r3*n0*n0))),(9,A.val (Ae x9)),(6,A.val (rP true (Ah false) c0)),(0,A.val (Ae n0)),(1,A.val (slr false 1 Ae row0)),(3,A.val (slr false 1 (slr false 1 Ae) patterns0))]
def Vy (n0:Int) (row0:List Int) (c0:SCondition) (patterns0:List (List Int)) (x9:Int) (r3:Int) (r7:Int) (x12:Int):(Unit ⊕ Unit)->Tgt
 | (.inl _s)=>(Ex.ret,[8],[(8,A.val (V.bool false))])
 | (.inr _s)=>((Ex.exit 4),[12,11,10,9,6,0,1,3],[(12,A.val (Ae x12)),(11,A.val (Ae (r7*n0*n0))),(10,A.val (Ae (r3*n0*n0))),(9,A.val (Ae x9)),(6,A.val (rP true (Ah false) c0)),(0,A.val (Ae n0)),(1,A.val (slr false 1 Ae row0)),(3,A.val (slr false 1 (slr false 1 Ae) patterns0))])
theorem Agr {n0} {row0} {c0} {patterns0} {x9} {r3} {r7} {x12} (x13) o (h:D1 n0 row0 c0 patterns0 x9 r3 r7 x12 x13=some o):vc Try.prog Uz (Ch [13,12,11,10,9,6,0,1,3] (N1 n0 row0 c0 patterns0 x9 r3 r7 x12) (Vy n0 row0 c0 patterns0 x9 r3 r7 x12) o) (N1 n0 row0 c0 patterns0 x9 r3 r7 x12 x13):=by
 unfold D1 at h;try dsimp only at h
 refine Br.od h (λp11 h=> ?_) (λp11 h=> ?_)
 ·refine BslQ.o Ae ([x12,x13]) (by exact λ_=>⟨rfl,rfl⟩) (by rfl)<|Cells.lit rfl rfl<|Len.map<|Ask.o h λp12 h=>Elem.o (by first | omega | (simp [Au] at * <;> omega))<|Len.map<|Ask.o h λp13 h=>Elem.o (by first | omega | (simp [Au] at * <;> omega))<|Len.map<|Ask.o h λp14 h=>Cells.one (λ_=>⟨rfl,rfl⟩) (by first | omega | (simp [Au] at * <;> omega))<|CutQ.o (λt:Int=>match t with | s=>(Ex.normal,[14,13,12,11,10,9,6,0,1,3],[(14,A.val (Ae s)),(13,A.val (Ae (x13))),(12,A.val (Ae (x12))),(11,A.val (Ae (r7*n0*n0))),(10,A.val (Ae (r3*n0*n0))),(9,A.val (Ae (x9))),(6,A.val ((rP true (Ah false)) (c0))),(0,A.val (Ae (n0))),(1,A.val ((slr false 1 Ae) (row0))),(3,A.val ((slr false 1 (slr false 1 Ae)) (patterns0)))])) h ?_ ?_
  ·intro t h;refine Cells.lit rfl rfl<|Len.map<|Ask.o h λp15 h=>Elem.o (by first | omega | (simp [Au] at * <;> omega))<|Len.map<|Br.od h (λp16 h=> ?_) (λp16 h=> ?_)
   ·refine Ask.o h λp17 h=>Ask.o h λp18 h=>Ask.o h λp19 h=>Len.map<|Ask.o h λp20 h=>Elem.o (by first | omega | (simp [Au] at * <;> omega)) ?_
    cases h;exact ⟨rfl,rfl⟩
   cases h;exact ⟨rfl,rfl⟩
  rintro q21_14 h;try dsimp only at h
  refine Ask.o h λp22 h=>Ask.o h λp23 h=>Ask.o h λp24 h=>Len.map<|Ask.o h λp25 h=>Elem.o (by first | omega | (simp [Au] at * <;> omega))<|Br.on h (λp26 h=> ?_) (λp26 h=> ?_)
  ·cases h;exact ⟨rfl,rfl⟩
  refine Ask.o h λp27 h=> ?_
  cases h;exact ⟨rfl,rfl⟩
 cases h;exact ⟨rfl,rfl⟩
noncomputable def D3 (n0:Int) (row0:List Int) (c0:SCondition) (patterns0:List (List Int)) (x9:Int) (r3:Int) (r7:Int):Int->Option (Int ⊕ (Unit ⊕ Unit)):=λx12=>
 if x12<n0 then
 (Aq (D1 n0 row0 c0 patterns0 x9 r3 r7 x12) (0:Int)).bind λt=>match t with
 | (.inl _)=>(some (.inr (.inl ())))
 | (.inr _)=>(ask (InI (x12+(1:Int))) <|
 some (.inl (x12+(1:Int))))
 else
 some (.inr (.inr ()))
def N0 (n0:Int) (row0:List Int) (c0:SCondition) (patterns0:List (List Int)) (x9:Int) (r3:Int) (r7:Int):Int->St:=λs=>[(12,A.val (Ae s)),(11,A.val (Ae (r7*n0*n0))),(10,A.val (Ae (r3*n0*n0))),(9,A.val (Ae x9)),(6,A.val (rP true (Ah false) c0)),(0,A.val (Ae n0)),(1,A.val (slr false 1 Ae row0)),(3,A.val (slr false 1 (slr false 1 Ae) patterns0))]
def Uw (n0:Int) (row0:List Int) (c0:SCondition) (patterns0:List (List Int)) (x9:Int) (_r3:Int) (_r7:Int):(Unit ⊕ Unit)->Tgt
 | (.inl _s)=>(Ex.ret,[8],[(8,A.val (V.bool false))])
 | (.inr _s)=>((Ex.exit 2),[9,6,0,1,3],[(9,A.val (Ae x9)),(6,A.val (rP true (Ah false) c0)),(0,A.val (Ae n0)),(1,A.val (slr false 1 Ae row0)),(3,A.val (slr false 1 (slr false 1 Ae) patterns0))])
theorem Afz {n0} {row0} {c0} {patterns0} {x9} {r3} {r7} (x12) o (h:D3 n0 row0 c0 patterns0 x9 r3 r7 x12=some o):vc Try.prog Vx (Ch [12,11,10,9,6,0,1,3] (N0 n0 row0 c0 patterns0 x9 r3 r7) (Uw n0 row0 c0 patterns0 x9 r3 r7) o) (N0 n0 row0 c0 patterns0 x9 r3 r7 x12):=by
 unfold D3 at h;try dsimp only at h
 refine Br.od h (λp10 h=> ?_) (λp10 h=> ?_)
 ·refine LoopQ.o [13,12,11,10,9,6,0,1,3] (N1 n0 row0 c0 patterns0 x9 r3 r7 x12) (Vy n0 row0 c0 patterns0 x9 r3 r7 x12) h (λs o h=>Agr s o h) (by rfl) (by rintro (_ | _)<;>rfl) ?_;rintro (⟨⟩ | ⟨⟩) h
  ·try dsimp only at h
   cases h;exact ⟨rfl,rfl⟩
  try dsimp only at h
  refine Ask.o h λp29 h=> ?_
  cases h;exact ⟨rfl,rfl⟩
 cases h;exact ⟨rfl,rfl⟩
noncomputable def F2 (n0:Int) (row0:List Int) (c0:SCondition) (patterns0:List (List Int)):Int->Option (Int ⊕ (Unit ⊕ Unit)):=λx9=>
 if x9<(↑c0.Rules.length:Int) then
 ask ((0:Int)<=x9/\x9<(↑c0.Rules.length:Int)) <|
 (Bx (patterns0) ((nth c0.Rules x9.toNat).Left)).bind λr3=>
 ask (InI (r3*n0)) <|
 ask (InI (r3*n0*n0)) <|
 ask ((0:Int)<=x9/\x9<(↑c0.Rules.length:Int)) <|
 (Bx (patterns0) ((nth c0.Rules x9.toNat).Right)).bind λr7=>
 ask (InI (r7*n0)) <|
 ask (InI (r7*n0*n0)) <|
 (Aq (D3 n0 row0 c0 patterns0 x9 r3 r7) (0:Int)).bind λt=>match t with
 | (.inl _)=>(some (.inr (.inl ())))
 | (.inr _)=>(ask (InI (x9+(1:Int))) <|
 some (.inl (x9+(1:Int))))
 else
 some (.inr (.inr ()))
def N2 (n0:Int) (row0:List Int) (c0:SCondition) (patterns0:List (List Int)):Int->St:=λs=>[(9,A.val (Ae s)),(6,A.val (rP true (Ah false) c0)),(0,A.val (Ae n0)),(1,A.val (slr false 1 Ae row0)),(3,A.val (slr false 1 (slr false 1 Ae) patterns0))]
def U5 (_n0:Int) (_row0:List Int) (_c0:SCondition) (_patterns0:List (List Int)):(Unit ⊕ Unit)->Tgt
 | (.inl _s)=>(Ex.ret,[8],[(8,A.val (V.bool false))])
 | (.inr _s)=>((Ex.exit 0),[],[])
theorem Ag4 {n0} {row0} {c0} {patterns0} (x9) o (h:F2 n0 row0 c0 patterns0 x9=some o):vc Try.prog Uq (Ch [9,6,0,1,3] (N2 n0 row0 c0 patterns0) (U5 n0 row0 c0 patterns0) o) (N2 n0 row0 c0 patterns0 x9):=by
 unfold F2 at h;try dsimp only at h
 refine Cells.lit rfl rfl<|Len.map<|Br.od h (λp1 h=> ?_) (λp1 h=> ?_)
 ·refine Cells.lit rfl rfl<|Len.map<|Ask.o h λp2 h=>Elem.o (by first | omega | (simp [Au] at * <;> omega))<|CallQ.o Ae (by rfl) h (λr h=>Gw h) (λr3 h=> ?_)
  refine Ask.o h λp4 h=>Ask.o h λp5 h=>Cells.lit rfl rfl<|Len.map<|Ask.o h λp6 h=>Elem.o (by first | omega | (simp [Au] at * <;> omega))<|CallQ.o Ae (by rfl) h (λr h=>Gw h) (λr7 h=> ?_)
  refine Ask.o h λp8 h=>Ask.o h λp9 h=>LoopQ.o [12,11,10,9,6,0,1,3] (N0 n0 row0 c0 patterns0 x9 r3 r7) (Uw n0 row0 c0 patterns0 x9 r3 r7) h (λs o h=>Afz s o h) (by rfl) (by rintro (_ | _)<;>rfl) ?_
  rintro (⟨⟩ | ⟨⟩) h
  ·try dsimp only at h
   cases h;exact ⟨rfl,rfl⟩
  try dsimp only at h
  refine Ask.o h λp31 h=> ?_
  cases h;exact ⟨rfl,rfl⟩
 cases h;exact ⟨rfl,rfl⟩
noncomputable def Fr (n0:Int) (row0:(List Int)) (c0:SCondition) (patterns0:(List (List Int))):Option Bool:=
 (Aq (F2 n0 row0 c0 patterns0) (0:Int)).bind λt=>match t with
 | (.inl _)=>(some false)
 | (.inr _)=>(some true)
theorem Td {n0} {row0} {c0} {patterns0} {v} (h:Fr n0 row0 c0 patterns0=some v):Ret Try.prog Kh [Ae n0,(slr false 1 Ae) row0,(Ah false) c0,(slr false 1 (slr false 1 Ae)) patterns0] (V.bool v):=by
 refine Bn Alz (Nat.le_of_ble_eq_true rfl) ?_;unfold Fr at h;refine LoopQ.o [9,6,0,1,3] (N2 n0 row0 c0 patterns0) (U5 n0 row0 c0 patterns0) h (λs o h=>Ag4 s o h) (by rfl) (by rintro (_ | _)<;>rfl) ?_;rintro (⟨⟩ | ⟨⟩) h
 ·try dsimp only at h
  cases h;exact (by rfl)
 try dsimp only at h
 cases h;exact (by rfl)
noncomputable def Dm (c0:SCondition):(Int×(List (List Int)))->Option ((Int×(List (List Int))) ⊕ (List (List Int))):=λ(x4,x3)=>
 if x4<(↑c0.Rules.length:Int) then
 ((ask ((0:Int)<=x4/\x4<(↑c0.Rules.length:Int)) <|
 (Bx (x3) ((nth c0.Rules x4.toNat).Left)).bind λr3=>
 if r3<(0:Int) then
 ask ((0:Int)<=x4/\x4<(↑c0.Rules.length:Int)) <|
 (Fc ((nth c0.Rules x4.toNat).Left)).bind λr6=>
 ask ((x3).length+([r6]).length<=LIM) <|
 some (x3++[r6])
 else
 some x3:Option (List (List Int)))).bind λq7_3=>
 ((ask ((0:Int)<=x4/\x4<(↑c0.Rules.length:Int)) <|
 if (↑(nth c0.Rules x4.toNat).Right.length:Int)>(1:Int) then
 ask ((0:Int)<=x4/\x4<(↑c0.Rules.length:Int)) <|
 (Bx (q7_3) ((nth c0.Rules x4.toNat).Right)).bind λr11=>
 some (decide (r11<(0:Int)))
 else
 some false:Option Bool)).bind λq12_50=>
 if (q12_50)=true then
 ask ((0:Int)<=x4/\x4<(↑c0.Rules.length:Int)) <|
 (Fc ((nth c0.Rules x4.toNat).Right)).bind λr15=>
 ask ((q7_3).length+([r15]).length<=LIM) <|
 ask (InI (x4+(1:Int))) <|
 some (.inl (x4+(1:Int),q7_3++[r15]))
 else
 ask (InI (x4+(1:Int))) <|
 some (.inl (x4+(1:Int),q7_3))
 else
 some (.inr x3)
def Kz (c0:SCondition):(Int×(List (List Int)))->St:=λs=>[(4,A.val (Ae s.1)),(3,A.val (slr true 1 (slr true 1 Ae) s.2)),(1,A.val (rP true (Ah false) c0))]
def Q6 (_c0:SCondition):(List (List Int))->Tgt
 | s=>((Ex.exit 0),[3],[(3,A.val (slr true 1 (slr true 1 Ae) s))])
theorem Abg {c0} (s) o (h:Dm c0 s=some o):vc Try.prog Q5 (Ch [4,3,1] (Kz c0) (Q6 c0) o) (Kz c0 s):=by
 obtain ⟨x4,x3⟩:=s;unfold Dm at h;try dsimp only at h
 refine Cells.lit rfl rfl<|Len.map<|Br.od h (λp1 h=> ?_) (λp1 h=> ?_)
 ·refine CutQ.o (λt:(List (List Int))=>match t with | s=>(Ex.normal,[3,4,1],[(3,A.val ((slr true 1 (slr true 1 Ae)) s)),(4,A.val (Ae (x4))),(1,A.val ((rP true (Ah false)) (c0)))])) h ?_ ?_
  ·intro t h;refine Cells.lit rfl rfl<|Len.map<|Ask.o h λp2 h=>Elem.o (by first | omega | (simp [Au] at * <;> omega))<|CallQ.rd Ae (by first | rfl | simp only [V.fz,Ab,slr] | simp [Aa,V.fz,fzL,V.up,upL,Ab,Ac,Ad,slr]) (λ_=>rfl) h (λr h=>Gw h) (λr3 h=> ?_)
   refine Br.od h (λp4 h=> ?_) (λp4 h=> ?_)
   ·refine Cells.lit rfl rfl<|Len.map<|Ask.o h λp5 h=>Elem.o (by first | omega | (simp [Au] at * <;> omega))<|CallQ.o (slr true 1 Ae) (by rfl) h (λr h=>P0 h) (λr6 h=> ?_)
    refine BslQ.o (slr true 1 Ae) [r6] (by exact λ_=>⟨rfl,rfl⟩) (by rfl)<|NoOwn.own rfl<|AppQ.o (m:=1) (slr true 1 Ae) (by exact λ_=>⟨rfl,rfl⟩) (x3) ([r6]) (by rfl) (by rfl) h λh=> ?_
    cases h;exact ⟨rfl,rfl⟩
   cases h;exact ⟨rfl,rfl⟩
  rintro q7_3 h;try dsimp only at h
  refine CutQ.o (λt:Bool=>match t with | s=>(Ex.normal,[50,3,4,1],[(50,A.val (V.bool s)),(3,A.val ((slr true 1 (slr true 1 Ae)) (q7_3))),(4,A.val (Ae (x4))),(1,A.val ((rP true (Ah false)) (c0)))])) h ?_ ?_
  ·intro t h;refine Cells.lit rfl rfl<|Len.map<|Ask.o h λp8 h=>Elem.o (by first | omega | (simp [Au] at * <;> omega))<|Len.map<|Br.od h (λp9 h=> ?_) (λp9 h=> ?_)
   ·refine Br.yes<|Br.yes<|Cells.lit rfl rfl<|Br.yes<|Br.yes<|Len.map<|Ask.o h λp10 h=>Elem.o (by first | omega | (simp [Au] at * <;> omega))<|Br.yes<|Br.yes<|Br.yes<|CallQ.rd Ae (by first | rfl | simp only [V.fz,Ab,slr] | simp [Aa,V.fz,fzL,V.up,upL,Ab,Ac,Ad,slr]) (λ_=>rfl) h (λr h=>Gw h) (λr11 h=> ?_)
    refine Br.yes<|Br.yes ?_
    cases h;exact ⟨rfl,rfl⟩
   refine Br.no<|Br.no<|Br.no<|Br.no<|Br.no<|Br.no<|Br.no<|Br.no<|Br.no ?_
   cases h;exact ⟨rfl,rfl⟩
  rintro q12_50 h;try dsimp only at h
  refine Br.ob h (λp13 h=> ?_) (λp13 h=> ?_)
  ·refine Cells.lit rfl rfl<|Len.map<|Ask.o h λp14 h=>Elem.o (by first | omega | (simp [Au] at * <;> omega))<|CallQ.o (slr true 1 Ae) (by rfl) h (λr h=>P0 h) (λr15 h=> ?_)
   refine BslQ.o (slr true 1 Ae) [r15] (by exact λ_=>⟨rfl,rfl⟩) (by rfl)<|NoOwn.own rfl<|AppQ.o (m:=1) (slr true 1 Ae) (by exact λ_=>⟨rfl,rfl⟩) (q7_3) ([r15]) (by rfl) (by rfl) h λh=>Ask.o h λp16 h=> ?_
   cases h;exact ⟨rfl,rfl⟩
  refine Ask.o h λp17 h=> ?_
  cases h;exact ⟨rfl,rfl⟩
 cases h;exact ⟨rfl,rfl⟩
noncomputable def D0 (c0:SCondition):Option (List (List Int)):=
 (Aq (Dm c0) ((0:Int),Av (List Int))).bind λq18_3=>
 some q18_3
theorem J8 {c0} {v} (h:D0 c0=some v):Ret Try.prog Gc [(Ah false) c0] (slr true 1 (slr true 1 Ae) v):=by
 refine Bn Af6 (Nat.le_of_ble_eq_true rfl) ?_;unfold D0 at h;refine BslQ.o (slr true 1 Ae) (Av (List Int)) (by exact λ_=>⟨rfl,rfl⟩) (by rfl)<|LoopQ.o [4,3,1] (Kz c0) (Q6 c0) h (λs o h=>Abg s o h) (by rfl) (λ_=>rfl) ?_
 rintro q18_3 h;try dsimp only at h
 cases h;exact (by rfl)
noncomputable def A5 (c0:Sl1Cur) (list0:(List Int)):Option (Int×Sl1Cur):=
 (As (c0) ((↑list0.length:Int))).bind λ(r1,u2)=>
 ask ((0:Int)<=r1/\r1<(↑list0.length:Int)) <|
 some (nth list0 r1.toNat,u2)
theorem Bc {c0} {list0} {v} (h:A5 c0 list0=some v):Sn Try.prog A6 [(rP true (Al false)) c0,(slr false 1 Ae) list0] (Ae v.1) 0 (rP true (Al false) v.2):=by
 refine Ql Ag1 (Nat.le_of_ble_eq_true rfl) ?_;unfold A5 at h;refine Len.map<|CallQ.io Ae (rP true (Al false)) (by rfl) rfl (λ_=>rfl) (λ_=>⟨rfl,rfl⟩) rfl h (λr h=>At h) (λr1 u2 h=> ?_)
 refine Len.map<|Ask.o h λp3 h=>Elem.o (by first | omega | (simp [Au] at * <;> omega)) ?_
 cases h;exact ⟨(by rfl),(by rfl)⟩
noncomputable def Kn (n0:Int) (row0:(List Int)) (patterns0:(List (List Int))):Option Bool:=
 ask (InI ((↑patterns0.length:Int)*n0)) <|
 ask (InI ((↑patterns0.length:Int)*n0*n0)) <|
 if (↑row0.length:Int)=(↑patterns0.length:Int)*n0*n0 then
 (El (n0) (row0)).bind λr4=>
 some r4
 else
 some false
theorem Amw {n0} {row0} {patterns0} {v} (h:Kn n0 row0 patterns0=some v):Ret Try.prog Tm [Ae n0,(slr false 1 Ae) row0,(slr false 1 (slr false 1 Ae)) patterns0] (V.bool v):=by
 refine Bn Amu (Nat.le_of_ble_eq_true rfl) ?_;unfold Kn at h;refine Len.map<|Len.map<|Ask.o h λp1 h=>Ask.o h λp2 h=>Br.oe h (λp3 h=> ?_) (λp3 h=> ?_)
 ·refine Br.yes<|Br.yes<|CallQ.o V.bool (by rfl) h (λr h=>Oy h) (λr4 h=> ?_)
  refine Br.yes ?_;cases h;exact (by rfl)
 refine Br.no<|Br.no<|Br.no ?_
 cases h;exact (by rfl)
noncomputable def Kq (c0:Sl1Cur) (list0:(List ByteArray)):Option (ByteArray×Sl1Cur):=
 (As (c0) ((↑list0.length:Int))).bind λ(r1,u2)=>
 ask ((0:Int)<=r1/\r1<(↑list0.length:Int)) <|
 some (nth list0 r1.toNat,u2)
theorem Amb {c0} {list0} {v} (h:Kq c0 list0=some v):Sn Try.prog Tr [(rP true (Al false)) c0,(slr false 1 V.str) list0] (V.str v.1) 0 (rP true (Al false) v.2):=by
 refine Ql Am4 (Nat.le_of_ble_eq_true rfl) ?_;unfold Kq at h;refine Len.map<|CallQ.io Ae (rP true (Al false)) (by rfl) rfl (λ_=>rfl) (λ_=>⟨rfl,rfl⟩) rfl h (λr h=>At h) (λr1 u2 h=> ?_)
 refine Len.map<|Ask.o h λp3 h=>Elem.o (by first | omega | (simp [Au] at * <;> omega)) ?_
 cases h;exact ⟨(by rfl),(by rfl)⟩
noncomputable def Eh (a0:SAlgebra):Int->Option (Int ⊕ (Unit ⊕ Unit)):=λx22=>
 if x22<(↑a0.Ops.length:Int) then
 ask ((0:Int)<=x22/\x22<(↑a0.Ops.length:Int)) <|
 (S3 (nth a0.Ops x22.toNat) (a0.Size)).bind λr7=>
 if (r7)=true then
 ask (InI (x22+(1:Int))) <|
 some (.inl (x22+(1:Int)))
 else
 some (.inr (.inl ()))
 else
 some (.inr (.inr ()))
def My (a0:SAlgebra):Int->St:=λs=>[(22,A.val (Ae s)),(21,A.val (Ae ((↑a0.Ops.length:Int)))),(20,A.val (slr false 2 (Bd false) a0.Ops)),(1,A.val (rP true (Aj false) a0))]
def Tu (_a0:SAlgebra):(Unit ⊕ Unit)->Tgt
 | (.inl _s)=>(Ex.ret,[2],[(2,A.val (V.bool false))])
 | (.inr _s)=>((Ex.exit 0),[],[])
theorem Aek {a0} (x22) o (h:Eh a0 x22=some o):vc Try.prog Ty (Ch [22,21,20,1] (My a0) (Tu a0) o) (My a0 x22):=by
 unfold Eh at h;try dsimp only at h
 refine Br.od h (λp5 h=> ?_) (λp5 h=> ?_)
 ·refine Len.map<|Ask.o h λp6 h=>Elem.o (by first | omega | (simp [Au] at * <;> omega))<|SetKids.lit rfl<|Cells.lit rfl rfl<|Cells.lit rfl rfl<|CallQ.o V.bool (by rfl) h (λr h=>Awf h) (λr7 h=> ?_)
  refine Br.flip<|Br.ob h (λp8 h=> ?_) (λp8 h=> ?_)
  ·refine Ask.o h λp9 h=> ?_
   cases h;exact ⟨rfl,rfl⟩
  cases h;exact ⟨rfl,rfl⟩
 cases h;exact ⟨rfl,rfl⟩
noncomputable def I1 (a0:SAlgebra):Option Bool:=
 ((if a0.Size<(1:Int) then
 some (.inl ())
 else
 if a0.Size>(8:Int) then
 some (.inl ())
 else
 if (↑a0.Ops.length:Int)>(4:Int) then
 some (.inl ())
 else
 some (.inr ()):Option (Unit ⊕ Unit))).bind λt=>match t with
 | (.inl _)=>(some false)
 | (.inr _)=>((Aq (Eh a0) (0:Int)).bind λt=>match t with
 | (.inl _)=>(some false)
 | (.inr _)=>(some true))
theorem Aj9 {a0} {v} (h:I1 a0=some v):Ret Try.prog Rj [(Aj false) a0] (V.bool v):=by
 refine Bn Ajx (Nat.le_of_ble_eq_true rfl) ?_;unfold I1 at h;refine CutQ.o (λt:(Unit ⊕ Unit)=>match t with | (.inl s)=>(Ex.ret,[2],[(2,A.val (V.bool (false)))]) | (.inr s)=>(Ex.normal,[1],[(1,A.val ((rP true (Aj false)) (a0)))])) h ?_ ?_
 ·intro t h;refine Cells.lit rfl rfl<|Br.od h (λp1 h=> ?_) (λp1 h=> ?_)
  ·refine Br.yes<|Br.yes<|Br.yes<|Br.yes<|Br.yes<|Br.yes<|Br.yes<|Br.yes<|Br.yes ?_
   cases h;exact ⟨rfl,rfl⟩
  refine Br.no<|Cells.lit rfl rfl<|Br.no<|Br.no<|Br.od h (λp2 h=> ?_) (λp2 h=> ?_)
  ·refine Br.yes<|Br.yes<|Br.yes<|Br.yes<|Br.yes ?_
   cases h;exact ⟨rfl,rfl⟩
  refine Br.no<|Cells.lit rfl rfl<|Br.no<|Len.map<|Br.no<|Br.no<|Br.od h (λp3 h=> ?_) (λp3 h=> ?_)
  ·cases h;exact ⟨rfl,rfl⟩
  cases h;exact ⟨rfl,rfl⟩
 rintro (⟨⟩ | ⟨⟩) h
 ·try dsimp only at h
  cases h;exact (by rfl)
 try dsimp only at h
 refine Cells.lit rfl rfl<|Len.map<|LoopQ.o [22,21,20,1] (My a0) (Tu a0) h (λs o h=>Aek s o h) (by rfl) (by rintro (_ | _)<;>rfl) ?_
 rintro (⟨⟩ | ⟨⟩) h
 ·try dsimp only at h
  cases h;exact (by rfl)
 try dsimp only at h
 cases h;exact (by rfl)
end Go.Proofs.Ytaalgpkajkogkaa.Ax
