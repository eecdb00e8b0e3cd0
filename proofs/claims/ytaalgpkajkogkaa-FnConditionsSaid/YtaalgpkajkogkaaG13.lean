/-
 What the functions compute, as functions on plain data, and that the program does compute it; written by program.
-/
import Derived.Test.YtaalgpkajkogkaaCode
import Derived.Test.YtaalgpkajkogkaaG1
import Derived.Test.YtaalgpkajkogkaaG5
import Derived.Test.YtaalgpkajkogkaaG6
import Derived.Test.YtaalgpkajkogkaaG7
import Derived.Test.YtaalgpkajkogkaaG8
import Derived.Test.YtaalgpkajkogkaaG9
import Derived.Test.YtaalgpkajkogkaaG12
namespace Go.Proofs.Ytaalgpkajkogkaa.Ax
open Go
set_option maxRecDepth 100000
set_option maxHeartbeats 4000000
noncomputable def Iz (c0:Sl1Cur) (a0:SAlgebra):Option (Int×Sl1Cur):=
 if (↑a0.Ops.length:Int)=(0:Int) then
 (A5 (c0) ([(-1:Int),(0:Int),(↑a0.Ops.length:Int)])).bind λ(r2,u3)=>
 some (r2,u3)
 else
 (Bt (c0) ((16:Int))).bind λ(r4,u5)=>
 if (r4)=true then
 (A5 (u5) ([(-1:Int),(0:Int),(↑a0.Ops.length:Int)])).bind λ(r7,u8)=>
 some (r7,u8)
 else
 (As (u5) ((↑a0.Ops.length:Int))).bind λ(r9,u10)=>
 some (r9,u10)
theorem Ake {c0} {a0} {v} (h:Iz c0 a0=some v):Sn Try.prog Rq [(rP true (Al false)) c0,(Aj false) a0] (Ae v.1) 0 (rP true (Al false) v.2):=by
 refine Ql Akf (Nat.le_of_ble_eq_true rfl) ?_;unfold Iz at h;refine Cells.lit rfl rfl<|Len.map<|Br.oe h (λp1 h=> ?_) (λp1 h=> ?_)
 ·refine Br.yes<|Br.yes<|Br.yes<|Cells.lit rfl rfl<|Len.map<|BslQ.o Ae ([(-1:Int),(0:Int),(↑a0.Ops.length:Int)]) (by exact λ_=>⟨rfl,rfl⟩) (by rfl)<|CallQ.io Ae (rP true (Al false)) (by rfl) rfl (λ_=>rfl) (λ_=>⟨rfl,rfl⟩) rfl h (λr h=>Bc h) (λr2 u3 h=> ?_)
  cases h;exact ⟨(by rfl),(by rfl)⟩
 refine Br.no<|CallQ.io V.bool (rP true (Al false)) (by rfl) rfl (λ_=>rfl) (λ_=>⟨rfl,rfl⟩) rfl h (λr h=>Dj h) (λr4 u5 h=> ?_)
 refine Br.no<|Br.ob h (λp6 h=> ?_) (λp6 h=> ?_)
 ·refine Cells.lit rfl rfl<|Len.map<|BslQ.o Ae ([(-1:Int),(0:Int),(↑a0.Ops.length:Int)]) (by exact λ_=>⟨rfl,rfl⟩) (by rfl)<|CallQ.io Ae (rP true (Al false)) (by rfl) rfl (λ_=>rfl) (λ_=>⟨rfl,rfl⟩) rfl h (λr h=>Bc h) (λr7 u8 h=> ?_)
  cases h;exact ⟨(by rfl),(by rfl)⟩
 refine Cells.lit rfl rfl<|Len.map<|CallQ.io Ae (rP true (Al false)) (by rfl) rfl (λ_=>rfl) (λ_=>⟨rfl,rfl⟩) rfl h (λr h=>At h) (λr9 u10 h=> ?_)
 cases h;exact ⟨(by rfl),(by rfl)⟩
noncomputable def Is (row0:(List Int)) (a1:SAlgebra) (a2:SCondition) (a3:(List (List Int))):Option Bool:=
 (Fs (a1.Size) (row0) (a2) (a3)).bind λr1=>
 some r1
theorem A8 {row0} {a1} {a2} {a3} {v} (h:Is row0 a1 a2 a3=some v):Ret Try.prog Iw [(slr false 1 Ae) row0,(rP false (Aj false)) a1,(rP false (Ah false)) a2,(rP false (slr false 1 (slr false 1 Ae))) a3] (V.bool v):=by refine Bn Ae2 (Nat.le_of_ble_eq_true rfl) ?_;unfold Is at h;refine CallQ.o V.bool (by rfl) h (λr h=>Tf h) (λr1 h=> ?_);cases h;exact (by rfl)
noncomputable def Fk (c0:SCondition):Int->Option (Int ⊕ (Unit ⊕ Unit)):=λx3=>
 if x3<(↑c0.Rules.length:Int) then
 ask ((0:Int)<=x3/\x3<(↑c0.Rules.length:Int)) <|
 (Ef ((nth c0.Rules x3.toNat).Left) (c0.Arity)).bind λr8=>
 if (r8)=true then
 (Ef ((nth c0.Rules x3.toNat).Right) (c0.Arity)).bind λr10=>
 if (r10)=true then
 ask (InI (x3+(1:Int))) <|
 some (.inl (x3+(1:Int)))
 else
 (Ef ((nth c0.Rules x3.toNat).Right) ((1:Int))).bind λr13=>
 if (r13)=true then
 ask (InI (x3+(1:Int))) <|
 some (.inl (x3+(1:Int)))
 else
 some (.inr (.inl ()))
 else
 some (.inr (.inl ()))
 else
 some (.inr (.inr ()))
def Pz (c0:SCondition):Int->St:=λs=>[(3,A.val (Ae s)),(1,A.val (rP true (Ah false) c0))]
def W3 (_c0:SCondition):(Unit ⊕ Unit)->Tgt
 | (.inl _s)=>(Ex.ret,[2],[(2,A.val (V.bool false))])
 | (.inr _s)=>((Ex.exit 0),[],[])
theorem Aim {c0} (x3) o (h:Fk c0 x3=some o):vc Try.prog Wx (Ch [3,1] (Pz c0) (W3 c0) o) (Pz c0 x3):=by
 unfold Fk at h;try dsimp only at h
 refine Cells.lit rfl rfl<|Len.map<|Br.od h (λp6 h=> ?_) (λp6 h=> ?_)
 ·refine Cells.lit rfl rfl<|Len.map<|Ask.o h λp7 h=>Elem.o (by first | omega | (simp [Au] at * <;> omega))<|SetKids.lit rfl<|Cells.lit rfl rfl<|Cells.lit rfl rfl<|CallQ.o V.bool (by rfl) h (λr h=>Mw h) (λr8 h=> ?_)
  refine Br.flip<|Br.ob h (λp9 h=> ?_) (λp9 h=> ?_)
  ·refine Br.no<|Cells.lit rfl rfl<|Br.no<|Br.no<|Cells.lit rfl rfl<|Br.no<|CallQ.o V.bool (by rfl) h (λr h=>Mw h) (λr10 h=> ?_)
   refine Br.no<|Br.no<|Br.flip<|Br.ob h (λp11 h=> ?_) (λp11 h=> ?_)
   ·refine Br.no<|Br.no<|Br.no<|Br.no<|Br.no<|Br.no<|Br.no<|Ask.o h λp12 h=> ?_
    cases h;exact ⟨rfl,rfl⟩
   refine Br.yes<|Cells.lit rfl rfl<|Br.yes<|CallQ.o V.bool (by rfl) h (λr h=>Mw h) (λr13 h=> ?_)
   refine Br.yes<|Br.no<|Br.yes<|Br.no<|Br.flip<|Br.ob h (λp14 h=> ?_) (λp14 h=> ?_)
   ·refine Ask.o h λp15 h=> ?_
    cases h;exact ⟨rfl,rfl⟩
   cases h;exact ⟨rfl,rfl⟩
  refine Br.yes<|Br.yes<|Br.yes<|Br.yes<|Br.yes<|Br.yes<|Br.yes<|Br.yes<|Br.yes ?_
  cases h;exact ⟨rfl,rfl⟩
 cases h;exact ⟨rfl,rfl⟩
noncomputable def Lh (c0:SCondition):Option Bool:=
 (((Dx (c0.Arity) ((2:Int)) ((3:Int))).bind λr1=>
 if (r1)=true then
 (Dx ((↑c0.Rules.length:Int)) ((1:Int)) ((6:Int))).bind λr3=>
 if (r3)=true then
 some (.inl ())
 else
 some (.inr ())
 else
 some (.inr ()):Option (Unit ⊕ Unit))).bind λt=>match t with
 | (.inl _)=>((Aq (Fk c0) (0:Int)).bind λt=>match t with
 | (.inl _)=>(some false)
 | (.inr _)=>(some true))
 | (.inr _)=>(some false)
theorem Apz {c0} {v} (h:Lh c0=some v):Ret Try.prog Uj [(Ah false) c0] (V.bool v):=by
 refine Bn Ao4 (Nat.le_of_ble_eq_true rfl) ?_;unfold Lh at h;refine CutQ.o (λt:(Unit ⊕ Unit)=>match t with | (.inl s)=>(Ex.normal,[1],[(1,A.val ((rP true (Ah false)) (c0)))]) | (.inr s)=>(Ex.ret,[2],[(2,A.val (V.bool (false)))])) h ?_ ?_
 ·intro t h;refine Cells.lit rfl rfl<|CallQ.o V.bool (by rfl) h (λr h=>Hc h) (λr1 h=> ?_)
  refine Br.flip<|Br.ob h (λp2 h=> ?_) (λp2 h=> ?_)
  ·refine Br.no<|Cells.lit rfl rfl<|Br.no<|Len.map<|Br.no<|CallQ.o V.bool (by rfl) h (λr h=>Hc h) (λr3 h=> ?_)
   refine Br.no<|Br.no<|Br.flip<|Br.ob h (λp4 h=> ?_) (λp4 h=> ?_)
   ·cases h;exact ⟨rfl,rfl⟩
   cases h;exact ⟨rfl,rfl⟩
  refine Br.yes<|Br.yes<|Br.yes<|Br.yes<|Br.yes<|Br.yes ?_
  cases h;exact ⟨rfl,rfl⟩
 rintro (⟨⟩ | ⟨⟩) h
 ·try dsimp only at h
  refine LoopQ.o [3,1] (Pz c0) (W3 c0) h (λs o h=>Aim s o h) (by rfl) (by rintro (_ | _)<;>rfl) ?_;rintro (⟨⟩ | ⟨⟩) h
  ·try dsimp only at h
   cases h;exact (by rfl)
  try dsimp only at h
  cases h;exact (by rfl)
 try dsimp only at h
 cases h;exact (by rfl)
noncomputable def Ir (s0:Sl15Search) (n0:Int) (c0:SCondition) (patterns0:(List (List Int))) (row0:(List Int)) (step0:SCloneStep):Option Sl15Search:=
 ((if s0.place>=(0:Int) then
 some (.inl ())
 else
 if (s0.open_)=true then
 some (.inl ())
 else
 (Bx (s0.rows) (row0)).bind λr3=>
 if r3>=(0:Int) then
 some (.inl ())
 else
 some (.inr ()):Option (Unit ⊕ Unit))).bind λt=>match t with
 | (.inl _)=>(some s0)
 | (.inr _)=>(if (↑s0.rows.length:Int)=(150:Int) then
 some ({ rows:=s0.rows,steps:=s0.steps,place:=s0.place,tries:=s0.tries,open_:=true })
 else
 ask ((s0.rows).length+([row0]).length<=LIM) <|
 ask ((s0.steps).length+([step0]).length<=LIM) <|
 (Fr (n0) (row0) (c0) (patterns0)).bind λr7=>
 if (r7)=true then
 ask (InI ((↑(s0.rows++[row0]).length:Int)-(1:Int))) <|
 some ({ rows:=s0.rows++[row0],steps:=s0.steps++[step0],place:=(↑(s0.rows++[row0]).length:Int)-(1:Int),tries:=s0.tries,open_:=s0.open_ })
 else
 some ({ rows:=s0.rows++[row0],steps:=s0.steps++[step0],place:=s0.place,tries:=s0.tries,open_:=s0.open_ }))
theorem Afd {s0} {n0} {c0} {patterns0} {row0} {step0} {v} (h:Ir s0 n0 c0 patterns0 row0 step0=some v):Sn Try.prog R4 [(Aw) s0,Ae n0,(Ah false) c0,(slr false 1 (slr false 1 Ae)) patterns0,(slr false 1 Ae) row0,(Af false) step0] ((Aw) v) 0 (V.agg (List.replicate 5 V.dead)):=by
 refine A3a rfl rfl Aqi (Nat.le_of_ble_eq_true rfl) ?_;unfold Ir at h;refine CutQ.o (λt:(Unit ⊕ Unit)=>match t with | (.inl s)=>(Ex.ret,[12],[(12,A.val ((rP true (Aw)) (s0)))]) | (.inr s)=>(Ex.normal,[12,11,8,6,1,3,4],[(12,A.val ((rP true (Aw)) ({ rows:=Av (List Int),steps:=Av SCloneStep,place:=(0:Int),tries:=(0:Int),open_:=false }))),(11,A.val ((rP true (Af false)) (step0))),(8,A.val ((rP true (Ah false)) (c0))),(6,A.val ((rP true (Aw)) (s0))),(1,A.val (Ae (n0))),(3,A.val ((slr false 1 (slr false 1 Ae)) (patterns0))),(4,A.val ((slr false 1 Ae) (row0)))])) h ?_ ?_
 ·intro t h;refine Cells.lit rfl rfl<|Br.od h (λp1 h=> ?_) (λp1 h=> ?_)
  ·refine Br.yes<|Br.yes<|Br.yes<|Br.yes<|Br.yes<|Br.yes<|Br.yes<|Br.yes<|Br.yes<|Cells.lit rfl rfl<|SetKids.lit rfl ?_
   cases h;exact ⟨rfl,rfl⟩
  refine Br.no<|Cells.lit rfl rfl<|Br.no<|Br.ob h (λp2 h=> ?_) (λp2 h=> ?_)
  ·refine Br.yes<|Br.yes<|Br.yes<|Br.yes<|Br.yes<|Br.yes<|Cells.lit rfl rfl<|SetKids.lit rfl ?_
   cases h;exact ⟨rfl,rfl⟩
  refine Br.no<|Cells.lit rfl rfl<|Br.no<|Br.no<|Kid.lit rfl rfl<|CallQ.rd Ae (by first | rfl | simp only [V.fz,V.up,Ab,slr] | simp [Aa,V.fz,fzL,V.up,upL,Ab,Ac,Ad,slr]) (λ_=>rfl) h (λr h=>Gw h) (λr3 h=> ?_)
  refine Br.no<|Br.no<|Br.od h (λp4 h=> ?_) (λp4 h=> ?_)
  ·refine Cells.lit rfl rfl<|SetKids.lit rfl ?_
   cases h;exact ⟨rfl,rfl⟩
  cases h;exact ⟨rfl,rfl⟩
 rintro (⟨⟩ | ⟨⟩) h
 ·try dsimp only at h
  cases h;exact (by rfl)
 try dsimp only at h
 refine Cells.lit rfl rfl<|Kid.lit rfl rfl<|Len.map<|Br.oe h (λp6 h=> ?_) (λp6 h=> ?_)
 ·refine SetKids.lit rfl<|Cells.lit rfl rfl<|SetKids.lit rfl ?_
  cases h;exact (by rfl)
 refine Cells.lit rfl rfl<|BslQ.o (slr false 1 Ae) [row0] (by exact λ_=>⟨rfl,rfl⟩) (by rfl)<|NoOwn.o (λ_=>rfl)<|Kid.lit rfl rfl<|Kid.lit rfl rfl<|SetKids.lit rfl<|AppQ.o (m:=1) (slr false 1 Ae) (by exact λ_=>⟨rfl,rfl⟩) (s0.rows) ([row0]) (by rfl) (by rfl) h λh=>SetKids.lit rfl<|Cells.lit rfl rfl<|Cells.lit rfl rfl<|BslQ.o (Af false) [step0] (by exact λ_=>⟨rfl,rfl⟩) (by rfl)<|NoOwn.o (λ_=>rfl)<|Kid.lit rfl rfl<|Kid.lit rfl rfl<|SetKids.lit rfl<|AppQ.o (m:=2) (Af false) (by exact λ_=>⟨rfl,rfl⟩) (s0.steps) ([step0]) (by rfl) (by rfl) h λh=>SetKids.lit rfl<|Cells.lit rfl rfl<|CallQ.o V.bool (by rfl) h (λr h=>Td h) (λr7 h=> ?_)
 refine Br.ob h (λp8 h=> ?_) (λp8 h=> ?_)
 ·refine Cells.lit rfl rfl<|Kid.lit rfl rfl<|Len.map<|Ask.o h λp9 h=>SetKids.lit rfl<|Cells.lit rfl rfl<|SetKids.lit rfl ?_
  cases h;exact (by rfl)
 refine Cells.lit rfl rfl<|SetKids.lit rfl ?_
 cases h;exact (by rfl)
noncomputable def Da (c0:Sl1Cur):Option (SAlgebra×Sl1Cur):=
 (Bt (c0) ((6:Int))).bind λ(r1,u2)=>
 if (r1)=true then
 (Gp (u2)).bind λ(r4,u5)=>
 some (r4,u5)
 else
 (A5 (u2) ([(0:Int),(1:Int),(2:Int),(3:Int),(4:Int),(5:Int),(6:Int),(7:Int),(8:Int),(9:Int),(10:Int),(12:Int),(13:Int),(14:Int),(15:Int),(16:Int)])).bind λ(r6,u7)=>
 (I9 (r6)).bind λr8=>
 some (r8,u7)
theorem Kd {c0} {v} (h:Da c0=some v):Sn Try.prog E9 [(rP true (Al false)) c0] (Aj true v.1) 0 (rP true (Al false) v.2):=by
 refine Ql Z2 (Nat.le_of_ble_eq_true rfl) ?_;unfold Da at h;refine CallQ.io V.bool (rP true (Al false)) (by rfl) rfl (λ_=>rfl) (λ_=>⟨rfl,rfl⟩) rfl h (λr h=>Dj h) (λr1 u2 h=> ?_);refine Br.ob h (λp3 h=> ?_) (λp3 h=> ?_)
 ·refine CallQ.io (Aj true) (rP true (Al false)) (by rfl) rfl (λ_=>rfl) (λ_=>⟨rfl,rfl⟩) rfl h (λr h=>Acy h) (λr4 u5 h=> ?_);refine SetKids.lit rfl ?_;cases h;exact ⟨(by rfl),(by rfl)⟩
 refine BslQ.o Ae ([(0:Int),(1:Int),(2:Int),(3:Int),(4:Int),(5:Int),(6:Int),(7:Int),(8:Int),(9:Int),(10:Int),(12:Int),(13:Int),(14:Int),(15:Int),(16:Int)]) (by exact λ_=>⟨rfl,rfl⟩) (by rfl)<|CallQ.io Ae (rP true (Al false)) (by rfl) rfl (λ_=>rfl) (λ_=>⟨rfl,rfl⟩) rfl h (λr h=>Bc h) (λr6 u7 h=> ?_)
 refine CallQ.o (Aj true) (by rfl) h (λr h=>Ack h) (λr8 h=> ?_);refine SetKids.lit rfl ?_;cases h;exact ⟨(by rfl),(by rfl)⟩
noncomputable def Er (a0:SAlgebra) (c0:SCondition):Option Bool:=
 (M2 (a0)).bind λr1=>
 if (r1)=true then
 if a0.Size<=(4:Int) then
 (Lh (c0)).bind λr4=>
 some r4
 else
 some false
 else
 some false
theorem Ix {a0} {c0} {v} (h:Er a0 c0=some v):Ret Try.prog Gg [(Aj false) a0,(Ah false) c0] (V.bool v):=by
 refine Bn Apn (Nat.le_of_ble_eq_true rfl) ?_;unfold Er at h;refine Cells.lit rfl rfl<|CallQ.o V.bool (by rfl) h (λr h=>Arb h) (λr1 h=> ?_)
 refine Br.ob h (λp2 h=> ?_) (λp2 h=> ?_)
 ·refine Br.yes<|Cells.lit rfl rfl<|Br.yes<|Br.yes<|Br.od h (λp3 h=> ?_) (λp3 h=> ?_)
  ·refine Cells.lit rfl rfl<|Br.yes<|CallQ.o V.bool (by rfl) h (λr h=>Apz h) (λr4 h=> ?_)
   refine Br.yes ?_;cases h;exact (by rfl)
  refine Br.no<|Br.no ?_
  cases h;exact (by rfl)
 refine Br.no<|Br.no<|Br.no<|Br.no<|Br.no<|Br.no ?_
 cases h;exact (by rfl)
end Go.Proofs.Ytaalgpkajkogkaa.Ax
