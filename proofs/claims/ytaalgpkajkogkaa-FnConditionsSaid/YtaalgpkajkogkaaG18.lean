/-
 What the functions compute, as functions on plain data, and that the program does compute it; written by program.
-/
import Derived.Test.YtaalgpkajkogkaaCode
import Derived.Test.YtaalgpkajkogkaaG1
import Derived.Test.YtaalgpkajkogkaaG4
import Derived.Test.YtaalgpkajkogkaaG5
import Derived.Test.YtaalgpkajkogkaaG7
import Derived.Test.YtaalgpkajkogkaaG10
import Derived.Test.YtaalgpkajkogkaaG13
import Derived.Test.YtaalgpkajkogkaaG14
import Derived.Test.YtaalgpkajkogkaaG15
namespace Go.Proofs.Ytaalgpkajkogkaa.Ax
open Go
set_option maxRecDepth 100000
set_option maxHeartbeats 4000000
noncomputable def G3 (code0:(List Int)):Option (SAlgebra×SCondition):=
 (Da ({ code:=code0,at_:=(0:Int),seed:=(0:Int) })).bind λ(r1,u2)=>
 (Df (u2)).bind λ(r3,_u4)=>
 some (r1,r3)
theorem Aet {code0} {v} (h:G3 code0=some v):Ret Try.prog Mu [(slr false 1 (V.int IntKind.u8)) code0] ((λr=>V.tup [(Aj true) r.1,(Ah false) r.2]) v):=by
 refine Bn Ad3 (Nat.le_of_ble_eq_true rfl) ?_;unfold G3 at h;refine CallQ.io (Aj true) (rP true (Al false)) (by rfl) rfl (λ_=>rfl) (λ_=>⟨rfl,rfl⟩) rfl h (λr h=>Kd h) (λr1 u2 h=> ?_);refine CallQ.io (Ah false) (rP true (Al false)) (by rfl) rfl (λ_=>rfl) (λ_=>⟨rfl,rfl⟩) rfl h (λr h=>Jq h) (λr3 u4 h=> ?_);refine SetKids.lit rfl<|SetKids.lit rfl ?_
 cases h;exact (by rfl)
noncomputable def Ko (a0:SAlgebra) (c0:SCondition):Option ((List SCloneStep)×Int×Bool):=
 (Er (a0) (c0)).bind λr1=>
 if (r1)=true then
 (Et (a0) (c0)).bind λr3=>
 if r3.place>=(0:Int) then
 (I7 (r3.steps)).bind λr5=>
 some (r5,(1:Int),true)
 else
 if (r3.open_)=true then
 some (Av SCloneStep,(3:Int),true)
 else
 some (Av SCloneStep,(2:Int),true)
 else
 some (Av SCloneStep,(0:Int),false)
theorem Al7 {a0} {c0} {v} (h:Ko a0 c0=some v):Ret Try.prog Tn [(Aj false) a0,(Ah false) c0] ((λr=>V.tup [(slr true 2 (Af true)) r.1,Ae r.2.1,V.bool r.2.2]) v):=by
 refine Bn Ang (Nat.le_of_ble_eq_true rfl) ?_;unfold Ko at h;refine Cells.lit rfl rfl<|Cells.lit rfl rfl<|CallQ.o V.bool (by rfl) h (λr h=>Ix h) (λr1 h=> ?_)
 refine Br.flip<|Br.ob h (λp2 h=> ?_) (λp2 h=> ?_)
 ·refine Cells.lit rfl rfl<|Cells.lit rfl rfl<|CallQ.o (Aw) (by rfl) h (λr h=>Pn h) (λr3 h=> ?_)
  refine SetKids.lit rfl<|Cells.lit rfl rfl<|Br.od h (λp4 h=> ?_) (λp4 h=> ?_)
  ·refine Cells.lit rfl rfl<|Kid.lit rfl rfl<|CallQ.rd (slr true 2 (Af true)) (by first | rfl | simp only [V.fz,Ab,slr] | simp [Aa,V.fz,fzL,V.up,upL,Ab,Ac,Ad,slr]) (λ_=>by simp [V.noFz,Bb]) h (λr h=>Acv h) (λr5 h=> ?_)
   cases h;exact (by rfl)
  refine Cells.lit rfl rfl<|Br.ob h (λp6 h=> ?_) (λp6 h=> ?_)
  ·refine BslQ.o (Af true) (Av SCloneStep) (by exact λ_=>⟨rfl,rfl⟩) (by rfl) ?_;cases h;exact (by rfl)
  refine BslQ.o (Af true) (Av SCloneStep) (by exact λ_=>⟨rfl,rfl⟩) (by rfl) ?_;cases h;exact (by rfl)
 refine BslQ.o (Af true) (Av SCloneStep) (by exact λ_=>⟨rfl,rfl⟩) (by rfl) ?_;cases h;exact (by rfl)
noncomputable def Dd (r3:Sl15Search):(Int×(List (List Int)))->Option ((Int×(List (List Int))) ⊕ (List (List Int))):=λ(x8,x6)=>
 if x8<(↑r3.rows.length:Int) then
 ask ((0:Int)<=x8/\x8<(↑r3.rows.length:Int)) <|
 (Fc (nth r3.rows x8.toNat)).bind λr9=>
 ask ((x6).length+([r9]).length<=LIM) <|
 ask (InI (x8+(1:Int))) <|
 some (.inl (x8+(1:Int),x6++[r9]))
 else
 some (.inr x6)
def J2 (r3:Sl15Search):(Int×(List (List Int)))->St:=λs=>[(8,A.val (Ae s.1)),(7,A.val (rP true Aw r3)),(6,A.val (slr true 1 (slr true 1 Ae) s.2))]
def Pi (_r3:Sl15Search):(List (List Int))->Tgt
 | s=>((Ex.exit 0),[6],[(6,A.val (slr true 1 (slr true 1 Ae) s))])
theorem Z9 {r3} (s) o (h:Dd r3 s=some o):vc Try.prog Pf (Ch [8,7,6] (J2 r3) (Pi r3) o) (J2 r3 s):=by
 obtain ⟨x8,x6⟩:=s;unfold Dd at h;try dsimp only at h
 refine Cells.lit rfl rfl<|Kid.lit rfl rfl<|Len.map<|Br.od h (λp7 h=> ?_) (λp7 h=> ?_)
 ·refine Cells.lit rfl rfl<|Kid.lit rfl rfl<|Len.map<|Ask.o h λp8 h=>Kid.lit rfl rfl<|Cells.one (λ_=>⟨rfl,rfl⟩) (by first | omega | (simp [Au] at * <;> omega))<|CallQ.o (slr true 1 Ae) (by rfl) h (λr h=>P0 h) (λr9 h=> ?_)
  refine BslQ.o (slr true 1 Ae) [r9] (by exact λ_=>⟨rfl,rfl⟩) (by rfl)<|NoOwn.own rfl<|AppQ.o (m:=1) (slr true 1 Ae) (by exact λ_=>⟨rfl,rfl⟩) (x6) ([r9]) (by rfl) (by rfl) h λh=>Ask.o h λp10 h=> ?_
  cases h;exact ⟨rfl,rfl⟩
 cases h;exact ⟨rfl,rfl⟩
noncomputable def G6 (a0:SAlgebra) (c0:SCondition):Option ((List (List Int))×Bool):=
 (Er (a0) (c0)).bind λr1=>
 if (r1)=true then
 (Et (a0) (c0)).bind λr3=>
 ((if r3.place>=(0:Int) then
 some (.inl ())
 else
 if (r3.open_)=true then
 some (.inl ())
 else
 some (.inr ()):Option (Unit ⊕ Unit))).bind λt=>match t with
 | (.inl _)=>(some (Av (List Int),false))
 | (.inr _)=>((Aq (Dd r3) ((0:Int),Av (List Int))).bind λq11_6=>
 some (q11_6,true))
 else
 some (Av (List Int),false)
theorem Aem {a0} {c0} {v} (h:G6 a0 c0=some v):Ret Try.prog Mt [(Aj false) a0,(Ah false) c0] ((λr=>V.tup [(slr true 1 (slr true 1 Ae)) r.1,V.bool r.2]) v):=by
 refine Bn Aeu (Nat.le_of_ble_eq_true rfl) ?_;unfold G6 at h;refine BslQ.o (slr true 1 Ae) (Av (List Int)) (by exact λ_=>⟨rfl,rfl⟩) (by rfl)<|Cells.lit rfl rfl<|Cells.lit rfl rfl<|CallQ.o V.bool (by rfl) h (λr h=>Ix h) (λr1 h=> ?_)
 refine Br.flip<|Br.ob h (λp2 h=> ?_) (λp2 h=> ?_)
 ·refine Cells.lit rfl rfl<|Cells.lit rfl rfl<|CallQ.o (Aw) (by rfl) h (λr h=>Pn h) (λr3 h=> ?_)
  refine SetKids.lit rfl<|CutQ.o (λt:(Unit ⊕ Unit)=>match t with | (.inl s)=>(Ex.ret,[5,4],[(5,A.val (V.bool (false))),(4,A.val ((slr true 1 (slr true 1 Ae)) (Av (List Int))))]) | (.inr s)=>(Ex.normal,[7,6],[(7,A.val ((rP true (Aw)) (r3))),(6,A.val ((slr true 1 (slr true 1 Ae)) (Av (List Int))))])) h ?_ ?_
  ·intro t h;refine Cells.lit rfl rfl<|Br.od h (λp4 h=> ?_) (λp4 h=> ?_)
   ·refine Br.yes<|Br.yes<|Br.yes ?_
    cases h;exact ⟨rfl,rfl⟩
   refine Br.no<|Cells.lit rfl rfl<|Br.no<|Br.ob h (λp5 h=> ?_) (λp5 h=> ?_)
   ·cases h;exact ⟨rfl,rfl⟩
   cases h;exact ⟨rfl,rfl⟩
  rintro (⟨⟩ | ⟨⟩) h
  ·try dsimp only at h
   cases h;exact (by rfl)
  try dsimp only at h
  refine LoopQ.o [8,7,6] (J2 r3) (Pi r3) h (λs o h=>Z9 s o h) (by rfl) (λ_=>rfl) ?_;rintro q11_6 h;try dsimp only at h
  cases h;exact (by rfl)
 cases h;exact (by rfl)
noncomputable def D7 (_r1:SAlgebra) (_r3:SCondition) (r25:Int) (_q32_5:Sl1Cur):(List SCloneStep)->Option ((List SCloneStep) ⊕ (List SCloneStep)):=λx9'=>
 if (↑x9'.length:Int)<(149:Int)+r25 then
 ask ((0:Int)<=(0:Int)/\(0:Int)<(↑x9'.length:Int)) <|
 ask ((x9').length+([nth x9' (Int.toNat (0:Int))]).length<=LIM) <|
 some (.inl (x9'++[nth x9' (Int.toNat (0:Int))]))
 else
 some (.inr x9')
def J9 (r1:SAlgebra) (r3:SCondition) (r25:Int) (q32_5:Sl1Cur):(List SCloneStep)->St:=λs=>[(9,A.val (slr true 2 (Af false) s)),(10,A.val (Ae ((149:Int)+r25))),(7,A.val (rP true (Ah false) r3)),(6,A.val (rP true (Aj false) r1)),(5,A.val (rP true (Al false) q32_5)),(3,A.val ((rP true (Ah true)) ({ Arity:=(0:Int),Rules:=Av SRule }))),(2,A.val ((rP true (Aj true)) ({ Size:=(0:Int),Ops:=Av SOp })))]
def Pm (r1:SAlgebra) (r3:SCondition) (r25:Int) (q32_5:Sl1Cur):(List SCloneStep)->Tgt
 | s=>((Ex.exit 3),[9,10,7,6,5,3,2],[(9,A.val (slr true 2 (Af false) s)),(10,A.val (Ae ((149:Int)+r25))),(7,A.val (rP true (Ah false) r3)),(6,A.val (rP true (Aj false) r1)),(5,A.val (rP true (Al false) q32_5)),(3,A.val ((rP true (Ah true)) ({ Arity:=(0:Int),Rules:=Av SRule }))),(2,A.val ((rP true (Aj true)) ({ Size:=(0:Int),Ops:=Av SOp })))])
theorem Aao {r1} {r3} {r25} {q32_5} (x9') o (h:D7 r1 r3 r25 q32_5 x9'=some o):vc Try.prog Qk (Ch [9,10,7,6,5,3,2] (J9 r1 r3 r25 q32_5) (Pm r1 r3 r25 q32_5) o) (J9 r1 r3 r25 q32_5 x9'):=by
 unfold D7 at h;try dsimp only at h
 refine Len.map<|Br.od h (λp33 h=> ?_) (λp33 h=> ?_)
 ·refine Len.map<|Ask.o h λp34 h=>Cells.wide0 (by exact λ_=>⟨rfl,rfl⟩) (by first | omega | (simp [Au] at * <;> omega)) (by decide)<|BslQ.o (Af false) ([nth x9' (Int.toNat (0:Int))]) (by exact λ_=>⟨rfl,rfl⟩) (by rfl)<|NoOwn.o (λ_=>rfl)<|AppQ.o (m:=2) (Af false) (by exact λ_=>⟨rfl,rfl⟩) (x9') ([nth x9' (Int.toNat (0:Int))]) (by rfl) (by rfl) h λh=> ?_
  cases h;exact ⟨rfl,rfl⟩
 cases h;exact ⟨rfl,rfl⟩
noncomputable def D9 (r1:SAlgebra) (r3:SCondition) (r25:Int):((List SCloneStep)×Sl1Cur)->Option (((List SCloneStep)×Sl1Cur) ⊕ (List SCloneStep)):=λ(x9,x5)=>
 (((Bt (x5) ((2:Int))).bind λ(r28,u29)=>
 if (r28)=true then
 if (↑x9.length:Int)<(149:Int)+r25 then
 some (.inl u29)
 else
 some (.inr ())
 else
 some (.inr ()):Option (Sl1Cur ⊕ Unit))).bind λt=>match t with
 | (.inl q32_5)=>(ask (0<=(0:Int)/\(0:Int)<=(1:Int)/\(1:Int)<=((x9.length:Nat):Int)) <|
 ask ((([{ Op:=(-1:Int),Args:=[(0:Int)] }]:List SCloneStep)).length+(List.take (Int.toNat (1:Int)-Int.toNat (0:Int)) (List.drop (Int.toNat (0:Int)) x9)).length<=LIM) <|
 (Aq (D7 r1 r3 r25 q32_5) ([{ Op:=(-1:Int),Args:=[(0:Int)] }]++List.take (Int.toNat (1:Int)-Int.toNat (0:Int)) (List.drop (Int.toNat (0:Int)) x9))).bind λq35_9=>
 some (.inl (q35_9,q32_5)))
 | (.inr _)=>(some (.inr x9))
def Jt (r1:SAlgebra) (r3:SCondition) (r25:Int):((List SCloneStep)×Sl1Cur)->St:=λs=>[(9,A.val (slr true 2 (Af false) s.1)),(10,A.val (Ae ((149:Int)+r25))),(7,A.val (rP true (Ah false) r3)),(6,A.val (rP true (Aj false) r1)),(5,A.val (rP true (Al false) s.2)),(3,A.val ((rP true (Ah true)) ({ Arity:=(0:Int),Rules:=Av SRule }))),(2,A.val ((rP true (Aj true)) ({ Size:=(0:Int),Ops:=Av SOp })))]
def Ph (r1:SAlgebra) (r3:SCondition) (_r25:Int):(List SCloneStep)->Tgt
 | s=>((Ex.exit 1),[9,7,6,3,2],[(9,A.val (slr true 2 (Af false) s)),(7,A.val (rP true (Ah false) r3)),(6,A.val (rP true (Aj false) r1)),(3,A.val ((rP true (Ah true)) ({ Arity:=(0:Int),Rules:=Av SRule }))),(2,A.val ((rP true (Aj true)) ({ Size:=(0:Int),Ops:=Av SOp })))])
theorem Zq {r1} {r3} {r25} (s) o (h:D9 r1 r3 r25 s=some o):vc Try.prog Qv (Ch [9,10,7,6,5,3,2] (Jt r1 r3 r25) (Ph r1 r3 r25) o) (Jt r1 r3 r25 s):=by
 obtain ⟨x9,x5⟩:=s;unfold D9 at h;try dsimp only at h
 refine CutQ.o (λt:(Sl1Cur ⊕ Unit)=>match t with | (.inl s)=>(Ex.normal,[9,10,7,6,5,3,2],[(9,A.val ((slr true 2 (Af false)) (x9))),(10,A.val (Ae ((149:Int)+r25))),(7,A.val ((rP true (Ah false)) (r3))),(6,A.val ((rP true (Aj false)) (r1))),(5,A.val ((rP true (Al false)) s)),(3,A.val ((rP true (Ah true)) ({ Arity:=(0:Int),Rules:=Av SRule }))),(2,A.val ((rP true (Aj true)) ({ Size:=(0:Int),Ops:=Av SOp })))]) | (.inr s)=>((Ex.exit 1),[9,7,6,3,2],[(9,A.val ((slr true 2 (Af false)) (x9))),(7,A.val ((rP true (Ah false)) (r3))),(6,A.val ((rP true (Aj false)) (r1))),(3,A.val ((rP true (Ah true)) ({ Arity:=(0:Int),Rules:=Av SRule }))),(2,A.val ((rP true (Aj true)) ({ Size:=(0:Int),Ops:=Av SOp })))])) h ?_ ?_
 ·intro t h;refine CallQ.io V.bool (rP true (Al false)) (by rfl) rfl (λ_=>rfl) (λ_=>⟨rfl,rfl⟩) rfl h (λr h=>Dj h) (λr28 u29 h=> ?_);refine Br.ob h (λp30 h=> ?_) (λp30 h=> ?_)
  ·refine Br.yes<|Len.map<|Br.yes<|Br.yes<|Br.yes<|Br.od h (λp31 h=> ?_) (λp31 h=> ?_)
   ·cases h;exact ⟨rfl,rfl⟩
   cases h;exact ⟨rfl,rfl⟩
  refine Br.no<|Br.no<|Br.no<|Br.no<|Br.no ?_
  cases h;exact ⟨rfl,rfl⟩
 rintro (q32_5 | ⟨⟩) h
 ·try dsimp only at h
  refine FrzQ.d ((slr false 2 (Af false)) x9) ((Ak _).trans (Eq.trans (b:=V.fz ((slr true 2 (Af false)) x9)) rfl (Ad (slr true 2 (Af false)) _)))<|BslQ.o Ae ([(0:Int)]) (by exact λ_=>⟨rfl,rfl⟩) (by rfl)<|FrzQ.d (V.sl false (1:Nat) (List.map Ae [(0:Int)])) (by first | (simp only [Ak,Ac];done) | exact (Ak _).trans (Eq.trans (b:=V.fz (V.sl true (1:Nat) (List.map Ae [(0:Int)]))) rfl (Ac _ _ _)) | (simp [Ak,V.fz,Ab,Ac,slr];done) | (simp [Ak,V.fz,fzL,Ab,slr];done))<|BslQ.o (Af false) ([{ Op:=(-1:Int),Args:=[(0:Int)] }]) (by exact λ_=>⟨rfl,rfl⟩) (by rfl)<|SlcQ.o (Af false) h λh=>AppQ.o (m:=2) (Af false) (by exact λ_=>⟨rfl,rfl⟩) ([{ Op:=(-1:Int),Args:=[(0:Int)] }]) (List.take (Int.toNat (1:Int)-Int.toNat (0:Int)) (List.drop (Int.toNat (0:Int)) x9)) (by rfl) (by rfl) h λh=>LoopQ.o [9,10,7,6,5,3,2] (J9 r1 r3 r25 q32_5) (Pm r1 r3 r25 q32_5) h (λs o h=>Aao s o h) (by rfl) (λ_=>rfl) ?_
  rintro q35_9 h;try dsimp only at h
  cases h;exact ⟨rfl,rfl⟩
 try dsimp only at h
 cases h;exact ⟨rfl,rfl⟩
noncomputable def G4 (code0:(List Int)):Option (SAlgebra×SCondition×(List SCloneStep)):=
 (Da ({ code:=code0,at_:=(0:Int),seed:=(0:Int) })).bind λ(r1,u2)=>
 (Df (u2)).bind λ(r3,u4)=>
 (((((Er (r1) (r3)).bind λr5=>
 if (r5)=true then
 (Bt (u4) ((3:Int))).bind λ(r7,u8)=>
 some (!r7,u8)
 else
 some (false,u4):Option (Bool×Sl1Cur))).bind λ(q9_25,q9_5)=>
 if (q9_25)=true then
 (Et (r1) (r3)).bind λr11=>
 if r11.place>=(0:Int) then
 (I7 (r11.steps)).bind λr13=>
 (As (q9_5) ((6:Int))).bind λ(r14,u15)=>
 if r14=(0:Int) then
 ask (InI ((↑r13.length:Int)-(1:Int))) <|
 ask (0<=(0:Int)/\(0:Int)<=(↑r13.length:Int)-(1:Int)/\(↑r13.length:Int)-(1:Int)<=((r13.length:Nat):Int)) <|
 some (.inl (List.take (((↑r13.length:Int)-(1:Int)).toNat-Int.toNat (0:Int)) (List.drop (Int.toNat (0:Int)) r13)))
 else
 if r14=(1:Int) then
 (As (u15) ((↑r13.length:Int))).bind λ(r19,u20)=>
 (As (u20) ((3:Int))).bind λ(r21,_u22)=>
 ask ((0:Int)<=r19/\r19<(↑r13.length:Int)) <|
 some (.inl (r13.set r19.toNat { Op:=(-1:Int),Args:=[r21] }))
 else
 if r14=(2:Int) then
 (As (u15) ((3:Int))).bind λ(r25,u26)=>
 ask (InI ((149:Int)+r25)) <|
 (Aq (D9 r1 r3 r25) (r13,u26)).bind λq36_9=>
 some (.inl q36_9)
 else
 some (.inl r13)
 else
 some (.inr q9_5)
 else
 some (.inr q9_5):Option ((List SCloneStep) ⊕ Sl1Cur))).bind λt=>match t with
 | (.inl q37_4)=>(some (r1,r3,q37_4))
 | (.inr q37_5)=>((E7 q37_5 r1 r3.Arity).bind λ(r38,_u39)=>
 some (r1,r3,r38))
theorem Aeo {code0} {v} (h:G4 code0=some v):Ret Try.prog Ms [(slr false 1 (V.int IntKind.u8)) code0] ((λr=>V.tup [(Aj false) r.1,(Ah false) r.2.1,(slr false 2 (Af false)) r.2.2]) v):=by
 refine Aby Ad5 (Nat.le_of_ble_eq_true rfl) ?_;unfold G4 at h;refine CallQ.io (Aj false) (rP true (Al false)) (by rfl) rfl (λ_=>rfl) (λ_=>⟨rfl,rfl⟩) rfl h (λr h=>Sn.frz (Kd h) (by first | rfl | simp only [V.fz,fzL,Ab] | simp [Aa,V.fz,fzL,V.up,upL,Ab,Ac,Ad,slr])) (λr1 u2 h=> ?_);refine CallQ.io (Ah false) (rP true (Al false)) (by rfl) rfl (λ_=>rfl) (λ_=>⟨rfl,rfl⟩) rfl h (λr h=>Jq h) (λr3 u4 h=> ?_);refine SetKids.lit rfl<|SetKids.lit rfl<|CutQ.o (λt:((List SCloneStep) ⊕ Sl1Cur)=>match t with | (.inl s)=>(Ex.ret,[4,3,2],[(4,A.val ((slr false 2 (Af false)) s)),(3,A.val ((rP true (Ah false)) (r3))),(2,A.val ((rP true (Aj false)) (r1)))]) | (.inr s)=>(Ex.normal,[7,6,5,3,2],[(7,A.val ((rP true (Ah false)) (r3))),(6,A.val ((rP true (Aj false)) (r1))),(5,A.val ((rP true (Al false)) s)),(3,A.val ((rP true (Ah true)) ({ Arity:=(0:Int),Rules:=Av SRule }))),(2,A.val ((rP true (Aj true)) ({ Size:=(0:Int),Ops:=Av SOp })))])) h ?_ ?_
 ·intro t h;refine CutQ.o (λt:(Bool×Sl1Cur)=>match t with | s=>(Ex.normal,[25,7,6,5,3,2],[(25,A.val (V.bool s.1)),(7,A.val ((rP true (Ah false)) (r3))),(6,A.val ((rP true (Aj false)) (r1))),(5,A.val ((rP true (Al false)) s.2)),(3,A.val ((rP true (Ah true)) ({ Arity:=(0:Int),Rules:=Av SRule }))),(2,A.val ((rP true (Aj true)) ({ Size:=(0:Int),Ops:=Av SOp })))])) h ?_ ?_
  ·intro t h;refine Cells.lit rfl rfl<|Cells.lit rfl rfl<|CallQ.o V.bool (by rfl) h (λr h=>Ix h) (λr5 h=> ?_)
   refine Br.ob h (λp6 h=> ?_) (λp6 h=> ?_)
   ·refine Br.yes<|CallQ.io V.bool (rP true (Al false)) (by rfl) rfl (λ_=>rfl) (λ_=>⟨rfl,rfl⟩) rfl h (λr h=>Dj h) (λr7 u8 h=> ?_)
    refine Br.yes<|Br.yes ?_
    cases h;exact ⟨rfl,rfl⟩
   refine Br.no<|Br.no<|Br.no ?_
   cases h;exact ⟨rfl,rfl⟩
  rintro ⟨q9_25,q9_5⟩ h;try dsimp only at h
  refine Br.ob h (λp10 h=> ?_) (λp10 h=> ?_)
  ·refine Cells.lit rfl rfl<|Cells.lit rfl rfl<|CallQ.o (Aw) (by rfl) h (λr h=>Pn h) (λr11 h=> ?_)
   refine SetKids.lit rfl<|Cells.lit rfl rfl<|Br.od h (λp12 h=> ?_) (λp12 h=> ?_)
   ·refine Cells.lit rfl rfl<|Kid.lit rfl rfl<|CallQ.rd (slr true 2 (Af true)) (by first | rfl | simp only [V.fz,Ab,slr] | simp [Aa,V.fz,fzL,V.up,upL,Ab,Ac,Ad,slr]) (λ_=>by simp [V.noFz,Bb]) h (λr h=>Acv h) (λr13 h=> ?_)
    refine CallQ.io Ae (rP true (Al false)) (by rfl) rfl (λ_=>rfl) (λ_=>⟨rfl,rfl⟩) rfl h (λr h=>At h) (λr14 u15 h=> ?_);refine Br.oe h (λp16 h=> ?_) (λp16 h=> ?_)
    ·refine FrzQ.d ((slr false 2 (Af false)) r13) ((Ak _).trans (Eq.trans (b:=V.fz ((slr true 2 (Af true)) r13)) rfl (Ad (slr true 2 (Af true)) _)))<|Len.map<|Ask.o h λp17 h=>SlcQ.o (Af false) h λh=>FrzQ.z<|Cells.lit rfl rfl<|Cells.lit rfl rfl<|Cells.lit rfl rfl<|SameQ.mk ⟨rfl,?_⟩
     refine Cells.lit rfl rfl<|SameQ.mk ⟨rfl,?_⟩
     refine SameQ.mk ⟨rfl,?_⟩;refine SetKids.lit rfl<|Cells.lit rfl rfl<|SameQ.mk ⟨rfl,?_⟩
     refine SameQ.mk ⟨rfl,?_⟩;refine SetKids.lit rfl<|SameQ.mk ⟨rfl,?_⟩
     cases h;exact ⟨rfl,rfl⟩
    refine Br.oe h (λp18 h=> ?_) (λp18 h=> ?_)
    ·refine Len.map<|CallQ.io Ae (rP true (Al false)) (by rfl) rfl (λ_=>rfl) (λ_=>⟨rfl,rfl⟩) rfl h (λr h=>At h) (λr19 u20 h=> ?_)
     refine CallQ.io Ae (rP true (Al false)) (by rfl) rfl (λ_=>rfl) (λ_=>⟨rfl,rfl⟩) rfl h (λr h=>At h) (λr21 u22 h=> ?_);refine BslQ.o Ae [r21] (by exact λ_=>⟨rfl,rfl⟩) (by rfl)<|Len.map<|Ask.o h λp23 h=>SetKids.wide0 (by exact λ_=>⟨rfl,rfl⟩) ({ Op:=(-1:Int),Args:=[r21] }) (by first | omega | (simp [Au] at * <;> omega)) (by rfl) (by decide)<|FrzQ.d ((slr false 2 (Af false)) (r13.set r19.toNat { Op:=(-1:Int),Args:=[r21] })) ((Ak _).trans (Eq.trans (b:=V.fz ((slr true 2 (Af true)) (r13.set r19.toNat { Op:=(-1:Int),Args:=[r21] }))) rfl (Ad (slr true 2 (Af true)) _)))<|Cells.lit rfl rfl<|Cells.lit rfl rfl<|Cells.lit rfl rfl<|SameQ.mk ⟨rfl,?_⟩
     refine Cells.lit rfl rfl<|SameQ.mk ⟨rfl,?_⟩
     refine SameQ.mk ⟨rfl,?_⟩;refine SetKids.lit rfl<|Cells.lit rfl rfl<|SameQ.mk ⟨rfl,?_⟩
     refine SameQ.mk ⟨rfl,?_⟩;refine SetKids.lit rfl<|SameQ.mk ⟨rfl,?_⟩
     cases h;exact ⟨rfl,rfl⟩
    refine Br.oe h (λp24 h=> ?_) (λp24 h=> ?_)
    ·refine CallQ.io Ae (rP true (Al false)) (by rfl) rfl (λ_=>rfl) (λ_=>⟨rfl,rfl⟩) rfl h (λr h=>At h) (λr25 u26 h=> ?_);refine Ask.o h λp27 h=>FrzQ.d (V.sl true (2:Nat) (List.map (Af false) r13)) (by first | (simp only [V.fzAt,Im,Ab,slr];done) | exact Eq.trans (b:=V.sl true (2:Nat) (List.map (Af false) r13)) rfl (by simp only [Ac]))<|LoopQ.o [9,10,7,6,5,3,2] (Jt r1 r3 r25) (Ph r1 r3 r25) h (λs o h=>Zq s o h) (by rfl) (λ_=>rfl) ?_
     rintro q36_9 h;try dsimp only at h
     refine FrzQ.d ((slr false 2 (Af false)) q36_9) ((Ak _).trans (Eq.trans (b:=V.fz ((slr true 2 (Af false)) q36_9)) rfl (Ad (slr true 2 (Af false)) _)))<|Cells.lit rfl rfl<|Cells.lit rfl rfl<|Cells.lit rfl rfl<|SameQ.mk ⟨rfl,?_⟩
     refine Cells.lit rfl rfl<|SameQ.mk ⟨rfl,?_⟩
     refine SameQ.mk ⟨rfl,?_⟩;refine SetKids.lit rfl<|Cells.lit rfl rfl<|SameQ.mk ⟨rfl,?_⟩
     refine SameQ.mk ⟨rfl,?_⟩;refine SetKids.lit rfl<|SameQ.mk ⟨rfl,?_⟩
     cases h;exact ⟨rfl,rfl⟩
    refine FrzQ.d ((slr false 2 (Af false)) r13) ((Ak _).trans (Eq.trans (b:=V.fz ((slr true 2 (Af true)) r13)) rfl (Ad (slr true 2 (Af true)) _)))<|Cells.lit rfl rfl<|Cells.lit rfl rfl<|Cells.lit rfl rfl<|SameQ.mk ⟨rfl,?_⟩
    refine Cells.lit rfl rfl<|SameQ.mk ⟨rfl,?_⟩
    refine SameQ.mk ⟨rfl,?_⟩;refine SetKids.lit rfl<|Cells.lit rfl rfl<|SameQ.mk ⟨rfl,?_⟩
    refine SameQ.mk ⟨rfl,?_⟩;refine SetKids.lit rfl<|SameQ.mk ⟨rfl,?_⟩
    cases h;exact ⟨rfl,rfl⟩
   cases h;exact ⟨rfl,rfl⟩
  cases h;exact ⟨rfl,rfl⟩
 rintro (q37_4 | q37_5) h
 ·try dsimp only at h
  cases h;exact (by rfl)
 try dsimp only at h
 refine Cells.lit rfl rfl<|Cells.lit rfl rfl<|Cells.lit rfl rfl<|Cells.lit rfl rfl<|Cells.lit rfl rfl<|SameQ.mk ⟨rfl,?_⟩
 refine Cells.lit rfl rfl<|SameQ.mk ⟨rfl,?_⟩
 refine SameQ.mk ⟨rfl,?_⟩;refine Cells.lit rfl rfl<|SameQ.mk ⟨rfl,?_⟩
 refine SameQ.mk ⟨rfl,?_⟩;refine Cells.lit rfl rfl<|SameQ.mk ⟨rfl,?_⟩
 refine CallQ.io (slr false 2 (Af false)) (rP true (Al false)) (by rfl) rfl (λ_=>rfl) (λ_=>⟨rfl,rfl⟩) rfl h (λr h=>Ac4 h) (λr38 u39 h=> ?_);refine Cells.lit rfl rfl<|SameQ.mk ⟨rfl,?_⟩
 refine Cells.lit rfl rfl<|SameQ.mk ⟨rfl,?_⟩
 refine SetKids.lit rfl<|Cells.lit rfl rfl<|SameQ.mk ⟨rfl,?_⟩
 refine SetKids.lit rfl ?_;cases h;exact (by rfl)
end Go.Proofs.Ytaalgpkajkogkaa.Ax
