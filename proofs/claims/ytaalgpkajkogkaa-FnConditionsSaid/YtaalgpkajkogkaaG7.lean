/-
 What the functions compute, as functions on plain data, and that the program does compute it; written by program.
-/
import Derived.Test.YtaalgpkajkogkaaCode
import Derived.Test.YtaalgpkajkogkaaG1
import Derived.Test.YtaalgpkajkogkaaG5
import Derived.Test.YtaalgpkajkogkaaG6
namespace Go.Proofs.Ytaalgpkajkogkaa.Ax
open Go
set_option maxRecDepth 100000
set_option maxHeartbeats 4000000
noncomputable def Hq (n0:Int) (op0:SOp):Int->Option (Int ⊕ (Unit ⊕ Unit)):=λx5=>
 if x5<(↑op0.Table.length:Int) then
 ask ((0:Int)<=x5/\x5<(↑op0.Table.length:Int)) <|
 ask (InI (n0-(1:Int))) <|
 (Dx (nth op0.Table x5.toNat) ((0:Int)) (n0-(1:Int))).bind λr9=>
 if (r9)=true then
 ask (InI (x5+(1:Int))) <|
 some (.inl (x5+(1:Int)))
 else
 some (.inr (.inl ()))
 else
 some (.inr (.inr ()))
def Ux (n0:Int) (op0:SOp):Int->St:=λs=>[(5,A.val (Ae s)),(3,A.val (rP true (Bd false) op0)),(0,A.val (Ae n0))]
def Acn (_n0:Int) (_op0:SOp):(Unit ⊕ Unit)->Tgt
 | (.inl _s)=>(Ex.ret,[4],[(4,A.val (V.bool false))])
 | (.inr _s)=>((Ex.exit 0),[],[])
theorem An3 {n0} {op0} (x5) o (h:Hq n0 op0 x5=some o):vc Try.prog Acj (Ch [5,3,0] (Ux n0 op0) (Acn n0 op0) o) (Ux n0 op0 x5):=by
 unfold Hq at h;try dsimp only at h
 refine Cells.lit rfl rfl<|Len.map<|Br.od h (λp6 h=> ?_) (λp6 h=> ?_)
 ·refine Cells.lit rfl rfl<|Len.map<|Ask.o h λp7 h=>Elem.o (by first | omega | (simp [Au] at * <;> omega))<|Ask.o h λp8 h=>CallQ.o V.bool (by rfl) h (λr h=>Hc h) (λr9 h=> ?_)
  refine Br.flip<|Br.ob h (λp10 h=> ?_) (λp10 h=> ?_)
  ·refine Ask.o h λp11 h=> ?_
   cases h;exact ⟨rfl,rfl⟩
  cases h;exact ⟨rfl,rfl⟩
 cases h;exact ⟨rfl,rfl⟩
noncomputable def Sa (n0:Int) (op0:SOp):Option Bool:=
 (((Dx (op0.Arity) ((0:Int)) ((3:Int))).bind λr1=>
 if (r1)=true then
 (Dq (n0) (op0.Arity)).bind λr3=>
 if (↑op0.Table.length:Int)≠r3 then
 some (.inl ())
 else
 some (.inr ())
 else
 some (.inl ()):Option (Unit ⊕ Unit))).bind λt=>match t with
 | (.inl _)=>(some false)
 | (.inr _)=>((Aq (Hq n0 op0) (0:Int)).bind λt=>match t with
 | (.inl _)=>(some false)
 | (.inr _)=>(some true))
theorem Aut {n0} {op0} {v} (h:Sa n0 op0=some v):Ret Try.prog Ace [Ae n0,(Bd false) op0] (V.bool v):=by
 refine Bn Aw5 (Nat.le_of_ble_eq_true rfl) ?_;unfold Sa at h;refine CutQ.o (λt:(Unit ⊕ Unit)=>match t with | (.inl s)=>(Ex.ret,[4],[(4,A.val (V.bool (false)))]) | (.inr s)=>(Ex.normal,[3,0],[(3,A.val ((rP true (Bd false)) (op0))),(0,A.val (Ae (n0)))])) h ?_ ?_
 ·intro t h;refine Cells.lit rfl rfl<|CallP.o V.bool (by rfl) h (λr h=>Hc h) (λr1 h=> ?_)
  refine Br.flip<|Br.ob h (λp2 h=> ?_) (λp2 h=> ?_)
  ·refine Br.no<|Cells.lit rfl rfl<|Br.no<|Len.map<|Br.no<|Br.no<|Br.no<|Cells.lit rfl rfl<|Br.no<|CallP.o Ae (by rfl) h (λr h=>Qe h) (λr3 h=> ?_)
   refine Br.no<|Br.no<|Br.on h (λp4 h=> ?_) (λp4 h=> ?_)
   ·cases h;exact ⟨rfl,rfl⟩
   cases h;exact ⟨rfl,rfl⟩
  refine Br.yes<|Br.yes<|Br.yes<|Br.yes<|Br.yes<|Br.yes<|Br.yes<|Br.yes<|Br.yes ?_
  cases h;exact ⟨rfl,rfl⟩
 rintro (⟨⟩ | ⟨⟩) h
 ·try dsimp only at h
  cases h;exact (by rfl)
 try dsimp only at h
 refine LoopQ.o [5,3,0] (Ux n0 op0) (Acn n0 op0) h (λs o h=>An3 s o h) (by rfl) (by rintro (_ | _)<;>rfl) ?_;rintro (⟨⟩ | ⟨⟩) h
 ·try dsimp only at h
  cases h;exact (by rfl)
 try dsimp only at h
 cases h;exact (by rfl)
noncomputable def D2 (n0:Int) (row0:List Int) (c0:SCondition) (_patterns0:List (List Int)) (x18:Int) (r3:Int) (q6_12:Int):Int->Option (Int ⊕ (Unit ⊕ Unit)):=λx13=>
 ask (InI (n0*n0)) <|
 if x13<n0*n0 then
 ask (n0≠(0:Int)/\InI (x13.tdiv n0)) <|
 ask (n0≠(0:Int)) <|
 ask ((0:Int)<=(0:Int)/\(0:Int)<(↑(nth c0.Rules x18.toNat).Right.length:Int)) <|
 ask ((0:Int)<=nth (nth c0.Rules x18.toNat).Right (Int.toNat (0:Int))/\nth (nth c0.Rules x18.toNat).Right (Int.toNat (0:Int))<(↑[x13.tdiv n0,x13.tmod n0].length:Int)) <|
 ((if q6_12>=(0:Int) then
 ask (InI (q6_12*n0)) <|
 ask (InI (q6_12*n0*n0)) <|
 ask (InI (q6_12*n0*n0+x13)) <|
 ask ((0:Int)<=q6_12*n0*n0+x13/\q6_12*n0*n0+x13<(↑row0.length:Int)) <|
 some (nth row0 (q6_12*n0*n0+x13).toNat)
 else
 some (nth [x13.tdiv n0,x13.tmod n0] (nth (nth c0.Rules x18.toNat).Right (Int.toNat (0:Int))).toNat):Option Int)).bind λq18_14=>
 ask (InI (r3*n0)) <|
 ask (InI (r3*n0*n0)) <|
 ask (InI (r3*n0*n0+x13)) <|
 ask ((0:Int)<=r3*n0*n0+x13/\r3*n0*n0+x13<(↑row0.length:Int)) <|
 if nth row0 (r3*n0*n0+x13).toNat≠q18_14 then
 some (.inr (.inl ()))
 else
 ask (InI (x13+(1:Int))) <|
 some (.inl (x13+(1:Int)))
 else
 some (.inr (.inr ()))
def Nr (n0:Int) (row0:List Int) (c0:SCondition) (patterns0:List (List Int)) (x18:Int) (r3:Int) (q6_12:Int):Int->St:=λs=>[(13,A.val (Ae s)),(12,A.val (Ae q6_12)),(11,A.val (Ae r3)),(10,A.val ((rP true (Ca false)) (nth c0.Rules x18.toNat))),(18,A.val (Ae x18)),(17,A.val (Ae ((↑c0.Rules.length:Int)))),(16,A.val (slr false 2 (Ca false) c0.Rules)),(6,A.val (rP true (Ah false) c0)),(0,A.val (Ae n0)),(1,A.val (slr false 1 Ae row0)),(3,A.val (slr false 1 (slr false 1 Ae) patterns0))]
def V6 (n0:Int) (row0:List Int) (c0:SCondition) (patterns0:List (List Int)) (x18:Int) (_r3:Int) (_q6_12:Int):(Unit ⊕ Unit)->Tgt
 | (.inl _s)=>(Ex.ret,[8],[(8,A.val (V.bool false))])
 | (.inr _s)=>((Ex.exit 2),[18,17,16,6,0,1,3],[(18,A.val (Ae x18)),(17,A.val (Ae ((↑c0.Rules.length:Int)))),(16,A.val (slr false 2 (Ca false) c0.Rules)),(6,A.val (rP true (Ah false) c0)),(0,A.val (Ae n0)),(1,A.val (slr false 1 Ae row0)),(3,A.val (slr false 1 (slr false 1 Ae) patterns0))])
theorem Ag7 {n0} {row0} {c0} {patterns0} {x18} {r3} {q6_12} (x13) o (h:D2 n0 row0 c0 patterns0 x18 r3 q6_12 x13=some o):vc Try.prog U7 (Ch [13,12,11,10,18,17,16,6,0,1,3] (Nr n0 row0 c0 patterns0 x18 r3 q6_12) (V6 n0 row0 c0 patterns0 x18 r3 q6_12) o) (Nr n0 row0 c0 patterns0 x18 r3 q6_12 x13):=by
 unfold D2 at h;try dsimp only at h
 refine Ask.o h λp7 h=>Br.od h (λp8 h=> ?_) (λp8 h=> ?_)
 ·refine Ask.o h λp9 h=>Ask.o h λp10 h=>BslQ.o Ae ([x13.tdiv n0,x13.tmod n0]) (by exact λ_=>⟨rfl,rfl⟩) (by rfl)<|Cells.lit rfl rfl<|Len.map<|Ask.o h λp11 h=>Elem.o (by first | omega | (simp [Au] at * <;> omega))<|Len.map<|Ask.o h λp12 h=>Cells.one (λ_=>⟨rfl,rfl⟩) (by first | omega | (simp [Au] at * <;> omega))<|CutQ.o (λt:Int=>match t with | s=>(Ex.normal,[14,13,12,11,10,18,17,16,6,0,1,3],[(14,A.val (Ae s)),(13,A.val (Ae (x13))),(12,A.val (Ae (q6_12))),(11,A.val (Ae (r3))),(10,A.val ((rP true (Ca false)) (nth c0.Rules x18.toNat))),(18,A.val (Ae (x18))),(17,A.val (Ae ((↑c0.Rules.length:Int)))),(16,A.val ((slr false 2 (Ca false)) (c0.Rules))),(6,A.val ((rP true (Ah false)) (c0))),(0,A.val (Ae (n0))),(1,A.val ((slr false 1 Ae) (row0))),(3,A.val ((slr false 1 (slr false 1 Ae)) (patterns0)))])) h ?_ ?_
  ·intro t h;refine Br.od h (λp13 h=> ?_) (λp13 h=> ?_)
   ·refine Ask.o h λp14 h=>Ask.o h λp15 h=>Ask.o h λp16 h=>Len.map<|Ask.o h λp17 h=>Elem.o (by first | omega | (simp [Au] at * <;> omega)) ?_
    cases h;exact ⟨rfl,rfl⟩
   cases h;exact ⟨rfl,rfl⟩
  rintro q18_14 h;try dsimp only at h
  refine Ask.o h λp19 h=>Ask.o h λp20 h=>Ask.o h λp21 h=>Len.map<|Ask.o h λp22 h=>Elem.o (by first | omega | (simp [Au] at * <;> omega))<|Br.on h (λp23 h=> ?_) (λp23 h=> ?_)
  ·cases h;exact ⟨rfl,rfl⟩
  refine Ask.o h λp24 h=> ?_
  cases h;exact ⟨rfl,rfl⟩
 cases h;exact ⟨rfl,rfl⟩
noncomputable def F5 (n0:Int) (row0:List Int) (c0:SCondition) (patterns0:List (List Int)):Int->Option (Int ⊕ (Unit ⊕ Unit)):=λx18=>
 if x18<(↑c0.Rules.length:Int) then
 ask ((0:Int)<=x18/\x18<(↑c0.Rules.length:Int)) <|
 (E6 (patterns0) ((nth c0.Rules x18.toNat).Left)).bind λr3=>
 ((if (↑(nth c0.Rules x18.toNat).Right.length:Int)=c0.Arity then
 (E6 (patterns0) ((nth c0.Rules x18.toNat).Right)).bind λr5=>
 some r5
 else
 some (-1:Int):Option Int)).bind λq6_12=>
 (Aq (D2 n0 row0 c0 patterns0 x18 r3 q6_12) (0:Int)).bind λt=>match t with
 | (.inl _)=>(some (.inr (.inl ())))
 | (.inr _)=>(ask (InI (x18+(1:Int))) <|
 some (.inl (x18+(1:Int))))
 else
 some (.inr (.inr ()))
def N3 (n0:Int) (row0:List Int) (c0:SCondition) (patterns0:List (List Int)):Int->St:=λs=>[(18,A.val (Ae s)),(17,A.val (Ae ((↑c0.Rules.length:Int)))),(16,A.val (slr false 2 (Ca false) c0.Rules)),(6,A.val (rP true (Ah false) c0)),(0,A.val (Ae n0)),(1,A.val (slr false 1 Ae row0)),(3,A.val (slr false 1 (slr false 1 Ae) patterns0))]
def Up (_n0:Int) (_row0:List Int) (_c0:SCondition) (_patterns0:List (List Int)):(Unit ⊕ Unit)->Tgt
 | (.inl _s)=>(Ex.ret,[8],[(8,A.val (V.bool false))])
 | (.inr _s)=>((Ex.exit 0),[],[])
theorem Agu {n0} {row0} {c0} {patterns0} (x18) o (h:F5 n0 row0 c0 patterns0 x18=some o):vc Try.prog Vz (Ch [18,17,16,6,0,1,3] (N3 n0 row0 c0 patterns0) (Up n0 row0 c0 patterns0) o) (N3 n0 row0 c0 patterns0 x18):=by
 unfold F5 at h;try dsimp only at h
 refine Br.od h (λp1 h=> ?_) (λp1 h=> ?_)
 ·refine Len.map<|Ask.o h λp2 h=>Elem.o (by first | omega | (simp [Au] at * <;> omega))<|SetKids.lit rfl<|Cells.lit rfl rfl<|CallQ.o Ae (by rfl) h (λr h=>Rl h) (λr3 h=> ?_)
  refine CutQ.o (λt:Int=>match t with | s=>(Ex.normal,[12,11,10,18,17,16,6,0,1,3],[(12,A.val (Ae s)),(11,A.val (Ae (r3))),(10,A.val ((rP true (Ca false)) (nth c0.Rules x18.toNat))),(18,A.val (Ae (x18))),(17,A.val (Ae ((↑c0.Rules.length:Int)))),(16,A.val ((slr false 2 (Ca false)) (c0.Rules))),(6,A.val ((rP true (Ah false)) (c0))),(0,A.val (Ae (n0))),(1,A.val ((slr false 1 Ae) (row0))),(3,A.val ((slr false 1 (slr false 1 Ae)) (patterns0)))])) h ?_ ?_
  ·intro t h;refine Cells.lit rfl rfl<|Len.map<|Cells.lit rfl rfl<|Br.oe h (λp4 h=> ?_) (λp4 h=> ?_)
   ·refine Cells.lit rfl rfl<|CallQ.o Ae (by rfl) h (λr h=>Rl h) (λr5 h=> ?_)
    cases h;exact ⟨rfl,rfl⟩
   cases h;exact ⟨rfl,rfl⟩
  rintro q6_12 h;try dsimp only at h
  refine LoopQ.o [13,12,11,10,18,17,16,6,0,1,3] (Nr n0 row0 c0 patterns0 x18 r3 q6_12) (V6 n0 row0 c0 patterns0 x18 r3 q6_12) h (λs o h=>Ag7 s o h) (by rfl) (by rintro (_ | _)<;>rfl) ?_;rintro (⟨⟩ | ⟨⟩) h
  ·try dsimp only at h
   cases h;exact ⟨rfl,rfl⟩
  try dsimp only at h
  refine Ask.o h λp26 h=> ?_
  cases h;exact ⟨rfl,rfl⟩
 cases h;exact ⟨rfl,rfl⟩
noncomputable def Fs (n0:Int) (row0:(List Int)) (c0:SCondition) (patterns0:(List (List Int))):Option Bool:=
 (Aq (F5 n0 row0 c0 patterns0) (0:Int)).bind λt=>match t with
 | (.inl _)=>(some false)
 | (.inr _)=>(some true)
theorem Tf {n0} {row0} {c0} {patterns0} {v} (h:Fs n0 row0 c0 patterns0=some v):Ret Try.prog Ki [Ae n0,(slr false 1 Ae) row0,(Ah false) c0,(slr false 1 (slr false 1 Ae)) patterns0] (V.bool v):=by
 refine Bn Amd (Nat.le_of_ble_eq_true rfl) ?_;unfold Fs at h;refine Cells.lit rfl rfl<|Len.map<|LoopQ.o [18,17,16,6,0,1,3] (N3 n0 row0 c0 patterns0) (Up n0 row0 c0 patterns0) h (λs o h=>Agu s o h) (by rfl) (by rintro (_ | _)<;>rfl) ?_
 rintro (⟨⟩ | ⟨⟩) h
 ·try dsimp only at h
  cases h;exact (by rfl)
 try dsimp only at h
 cases h;exact (by rfl)
noncomputable def Bt (c0:Sl1Cur) (n0:Int):Option (Bool×Sl1Cur):=
 (As (c0) (n0)).bind λ(r1,u2)=>
 some (r1==(0:Int),u2)
theorem Dj {c0} {n0} {v} (h:Bt c0 n0=some v):Sn Try.prog Cb [(rP true (Al false)) c0,Ae n0] (V.bool v.1) 0 (rP true (Al false) v.2):=by refine Ql Ajs (Nat.le_of_ble_eq_true rfl) ?_;unfold Bt at h;refine CallQ.io Ae (rP true (Al false)) (by rfl) rfl (λ_=>rfl) (λ_=>⟨rfl,rfl⟩) rfl h (λr h=>At h) (λr1 u2 h=> ?_);cases h;exact ⟨(by rfl),(by rfl)⟩
noncomputable def Fg (_a0:SAlgebra) (_first0:List (List Int)) (rows0:List (List Int)) (s0:SCloneStep):(Int×(List (List Int)))->Option ((Int×(List (List Int))) ⊕ (List (List Int))):=λ(x11,x10)=>
 if x11<(↑s0.Args.length:Int) then
 ask ((0:Int)<=x11/\x11<(↑s0.Args.length:Int)) <|
 ask ((0:Int)<=nth s0.Args x11.toNat/\nth s0.Args x11.toNat<(↑rows0.length:Int)) <|
 ask ((x10).length+([nth rows0 (nth s0.Args x11.toNat).toNat]).length<=LIM) <|
 ask (InI (x11+(1:Int))) <|
 some (.inl (x11+(1:Int),x10++[nth rows0 (nth s0.Args x11.toNat).toNat]))
 else
 some (.inr x10)
def P6 (a0:SAlgebra) (first0:List (List Int)) (rows0:List (List Int)) (s0:SCloneStep):(Int×(List (List Int)))->St:=λs=>[(11,A.val (Ae s.1)),(10,A.val (slr true 1 (slr false 1 Ae) s.2)),(7,A.val (rP true (Af false) s0)),(4,A.val (rP true (Aj false) a0)),(1,A.val (slr false 1 (slr false 1 Ae) first0)),(2,A.ref 103 []),(103,A.val (slr true 1 (slr false 1 Ae) rows0))]
def Wp (a0:SAlgebra) (first0:List (List Int)) (rows0:List (List Int)) (s0:SCloneStep):(List (List Int))->Tgt
 | s=>((Ex.exit 0),[10,7,4,1,103],[(10,A.val (slr true 1 (slr false 1 Ae) s)),(7,A.val (rP true (Af false) s0)),(4,A.val (rP true (Aj false) a0)),(1,A.val (slr false 1 (slr false 1 Ae) first0)),(103,A.val (slr true 1 (slr false 1 Ae) rows0))])
theorem Ahg {a0} {first0} {rows0} {s0} (s) o (h:Fg a0 first0 rows0 s0 s=some o):vc Try.prog Wt (Ch [11,10,7,4,1,2,103] (P6 a0 first0 rows0 s0) (Wp a0 first0 rows0 s0) o) (P6 a0 first0 rows0 s0 s):=by
 obtain ⟨x11,x10⟩:=s;unfold Fg at h;try dsimp only at h
 refine Cells.lit rfl rfl<|Len.map<|Br.od h (λp18 h=> ?_) (λp18 h=> ?_)
 ·refine Cells.lit rfl rfl<|Len.map<|Ask.o h λp19 h=>Elem.o (by first | omega | (simp [Au] at * <;> omega))<|Len.map<|Ask.o h λp20 h=>Cells.one (λ_=>⟨rfl,rfl⟩) (by first | omega | (simp [Au] at * <;> omega))<|BslQ.o (slr false 1 Ae) ([nth rows0 (nth s0.Args x11.toNat).toNat]) (by exact λ_=>⟨rfl,rfl⟩) (by rfl)<|NoOwn.o (λ_=>rfl)<|AppQ.o (m:=1) (slr false 1 Ae) (by exact λ_=>⟨rfl,rfl⟩) (x10) ([nth rows0 (nth s0.Args x11.toNat).toNat]) (by rfl) (by rfl) h λh=>Ask.o h λp21 h=> ?_
  cases h;exact ⟨rfl,rfl⟩
 cases h;exact ⟨rfl,rfl⟩
noncomputable def Lk (a0:SAlgebra) (first0:(List (List Int))) (rows0:(List (List Int))) (s0:SCloneStep):Option (((List Int)×Bool)×(List (List Int))):=
 if s0.Op=(-1:Int) then
 ((if (↑s0.Args.length:Int)≠(1:Int) then
 some (.inl ())
 else
 ask ((0:Int)<=(0:Int)/\(0:Int)<(↑s0.Args.length:Int)) <|
 ask (InI ((↑first0.length:Int)-(1:Int))) <|
 (Dx (nth s0.Args (Int.toNat (0:Int))) ((0:Int)) ((↑first0.length:Int)-(1:Int))).bind λr5=>
 if (r5)=true then
 some (.inr ())
 else
 some (.inl ()):Option (Unit ⊕ Unit))).bind λt=>match t with
 | (.inl _)=>(some ((Av Int,false),rows0))
 | (.inr _)=>(ask ((0:Int)<=(0:Int)/\(0:Int)<(↑s0.Args.length:Int)) <|
 ask ((0:Int)<=nth s0.Args (Int.toNat (0:Int))/\nth s0.Args (Int.toNat (0:Int))<(↑first0.length:Int)) <|
 some ((nth first0 (nth s0.Args (Int.toNat (0:Int))).toNat,true),rows0))
 else
 ((ask (InI ((↑a0.Ops.length:Int)-(1:Int))) <|
 (Dx (s0.Op) ((0:Int)) ((↑a0.Ops.length:Int)-(1:Int))).bind λr11=>
 if (r11)=true then
 ask ((0:Int)<=s0.Op/\s0.Op<(↑a0.Ops.length:Int)) <|
 if (↑s0.Args.length:Int)≠(nth a0.Ops s0.Op.toNat).Arity then
 some (.inl ())
 else
 (El ((↑rows0.length:Int)) (s0.Args)).bind λr15=>
 if (r15)=true then
 some (.inr ())
 else
 some (.inl ())
 else
 some (.inl ()):Option (Unit ⊕ Unit))).bind λt=>match t with
 | (.inl _)=>(some ((Av Int,false),rows0))
 | (.inr _)=>((Aq (Fg a0 first0 rows0 s0) ((0:Int),Av (List Int))).bind λq22_10=>
 ask ((0:Int)<=s0.Op/\s0.Op<(↑a0.Ops.length:Int)) <|
 ask ((0:Int)<=(0:Int)/\(0:Int)<(↑first0.length:Int)) <|
 (Fh (a0.Size) (nth a0.Ops s0.Op.toNat) (q22_10) ((↑(nth first0 (Int.toNat (0:Int))).length:Int))).bind λr25=>
 some ((r25,true),rows0))
theorem Apw {a0} {first0} {rows0} {s0} {v} (h:Lk a0 first0 rows0 s0=some v):Sn Try.prog Vo [(Aj false) a0,(slr false 1 (slr false 1 Ae)) first0,(slr true 1 (slr false 1 Ae)) rows0,(Af false) s0] ((λr=>V.tup [(slr false 1 Ae) r.1,V.bool r.2]) v.1) 2 (slr true 1 (slr false 1 Ae) v.2):=by
 refine Akq Aok (Nat.le_of_ble_eq_true rfl) ?_;unfold Lk at h;refine Cells.lit rfl rfl<|Br.oe h (λp1 h=> ?_) (λp1 h=> ?_)
 ·refine CutQ.o (λt:(Unit ⊕ Unit)=>match t with | (.inl s)=>(Ex.ret,[9,8,103],[(9,A.val (V.bool (false))),(8,A.val ((slr true 1 Ae) (Av Int))),(103,A.val ((slr true 1 (slr false 1 Ae)) (rows0)))]) | (.inr s)=>(Ex.normal,[7,1,103],[(7,A.val ((rP true (Af false)) (s0))),(1,A.val ((slr false 1 (slr false 1 Ae)) (first0))),(103,A.val ((slr true 1 (slr false 1 Ae)) (rows0)))])) h ?_ ?_
  ·intro t h;refine Cells.lit rfl rfl<|Len.map<|Br.on h (λp2 h=> ?_) (λp2 h=> ?_)
   ·refine Br.yes<|Br.yes<|Br.yes<|Br.yes<|Br.yes<|Br.yes<|Br.yes<|Br.yes<|Br.yes<|Br.yes<|BslQ.o Ae (Av Int) (by exact λ_=>⟨rfl,rfl⟩) (by rfl) ?_
    cases h;exact ⟨rfl,rfl⟩
   refine Br.no<|Cells.lit rfl rfl<|Br.no<|Len.map<|Ask.o h λp3 h=>Elem.o (by first | omega | (simp [Au] at * <;> omega))<|Br.no<|Br.no<|Br.no<|Len.map<|Br.no<|Ask.o h λp4 h=>Br.no<|CallQ.o V.bool (by rfl) h (λr h=>Hc h) (λr5 h=> ?_)
   refine Br.no<|Br.no<|Br.flip<|Br.ob h (λp6 h=> ?_) (λp6 h=> ?_)
   ·cases h;exact ⟨rfl,rfl⟩
   refine BslQ.o Ae (Av Int) (by exact λ_=>⟨rfl,rfl⟩) (by rfl) ?_;cases h;exact ⟨rfl,rfl⟩
  rintro (⟨⟩ | ⟨⟩) h
  ·try dsimp only at h
   cases h;exact ⟨(by rfl),(by rfl)⟩
  try dsimp only at h
  refine Cells.lit rfl rfl<|Len.map<|Ask.o h λp8 h=>Elem.o (by first | omega | (simp [Au] at * <;> omega))<|Len.map<|Ask.o h λp9 h=>Elem.o (by first | omega | (simp [Au] at * <;> omega)) ?_
  cases h;exact ⟨(by rfl),(by rfl)⟩
 refine CutQ.o (λt:(Unit ⊕ Unit)=>match t with | (.inl s)=>(Ex.ret,[9,8,103],[(9,A.val (V.bool (false))),(8,A.val ((slr true 1 Ae) (Av Int))),(103,A.val ((slr true 1 (slr false 1 Ae)) (rows0)))]) | (.inr s)=>(Ex.normal,[7,4,1,2,103],[(7,A.val ((rP true (Af false)) (s0))),(4,A.val ((rP true (Aj false)) (a0))),(1,A.val ((slr false 1 (slr false 1 Ae)) (first0))),(2,A.ref 103 []),(103,A.val ((slr true 1 (slr false 1 Ae)) (rows0)))])) h ?_ ?_
 ·intro t h;refine Cells.lit rfl rfl<|Cells.lit rfl rfl<|Len.map<|Ask.o h λp10 h=>CallP.o V.bool (by rfl) h (λr h=>Hc h) (λr11 h=> ?_)
  refine Br.flip<|Br.ob h (λp12 h=> ?_) (λp12 h=> ?_)
  ·refine Br.no<|Cells.lit rfl rfl<|Br.no<|Len.map<|Br.no<|Br.no<|Cells.lit rfl rfl<|Br.no<|Br.no<|Cells.lit rfl rfl<|Br.no<|Len.map<|Ask.o h λp13 h=>Elem.o (by first | omega | (simp [Au] at * <;> omega))<|Br.no<|Br.no<|Br.no<|Br.no<|Br.on h (λp14 h=> ?_) (λp14 h=> ?_)
   ·refine Br.yes<|Br.yes<|Br.yes<|Br.yes<|Br.yes<|Br.yes<|Br.yes<|BslQ.o Ae (Av Int) (by exact λ_=>⟨rfl,rfl⟩) (by rfl) ?_
    cases h;exact ⟨rfl,rfl⟩
   refine Br.no<|Len.map<|Br.no<|Br.no<|Cells.lit rfl rfl<|Br.no<|CallQ.o V.bool (by rfl) h (λr h=>Oy h) (λr15 h=> ?_)
   refine Br.no<|Br.no<|Br.flip<|Br.ob h (λp16 h=> ?_) (λp16 h=> ?_)
   ·cases h;exact ⟨rfl,rfl⟩
   refine BslQ.o Ae (Av Int) (by exact λ_=>⟨rfl,rfl⟩) (by rfl) ?_;cases h;exact ⟨rfl,rfl⟩
  refine Br.yes<|Br.yes<|Br.yes<|Br.yes<|Br.yes<|Br.yes<|Br.yes<|Br.yes<|Br.yes<|Br.yes<|Br.yes<|Br.yes<|Br.yes<|Br.yes<|Br.yes<|Br.yes<|Br.yes<|Br.yes<|Br.yes<|BslQ.o Ae (Av Int) (by exact λ_=>⟨rfl,rfl⟩) (by rfl) ?_
  cases h;exact ⟨rfl,rfl⟩
 rintro (⟨⟩ | ⟨⟩) h
 ·try dsimp only at h
  cases h;exact ⟨(by rfl),(by rfl)⟩
 try dsimp only at h
 refine BslQ.o (slr true 1 Ae) (Av (List Int)) (by exact λ_=>⟨rfl,rfl⟩) (by rfl)<|LoopQ.o [11,10,7,4,1,2,103] (P6 a0 first0 rows0 s0) (Wp a0 first0 rows0 s0) h (λs o h=>Ahg s o h) (by rfl) (λ_=>rfl) ?_
 rintro q22_10 h;try dsimp only at h
 refine FrzQ.d (V.sl false (1:Nat) (List.map (slr false (1:Nat) Ae) q22_10)) (by first | (simp only [slr];done) | exact (Ak _).trans (Eq.trans (b:=V.fz (V.sl true (1:Nat) (List.map (slr false (1:Nat) Ae) q22_10))) rfl (Ac _ _ _)) | (simp [Ak,V.fz,Ab,Ac,slr];done) | (simp [Ak,V.fz,fzL,Ab,slr];done))<|Cells.lit rfl rfl<|Cells.lit rfl rfl<|Cells.lit rfl rfl<|Len.map<|Ask.o h λp23 h=>Elem.o (by first | omega | (simp [Au] at * <;> omega))<|Len.map<|Ask.o h λp24 h=>Elem.o (by first | omega | (simp [Au] at * <;> omega))<|Len.map<|CallQ.o (slr true 1 Ae) (by rfl) h (λr h=>P9 h) (λr25 h=> ?_)
 cases h;exact ⟨(by first | rfl | simp only [Ai,V.fz,fzL,V.up,Ab,slr] | simp [Ai,Aa,V.fz,fzL,V.up,upL,Ab,Ac,Ad,slr]),(by rfl)⟩
end Go.Proofs.Ytaalgpkajkogkaa.Ax
