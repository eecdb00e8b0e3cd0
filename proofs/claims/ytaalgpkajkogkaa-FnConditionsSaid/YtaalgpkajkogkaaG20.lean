/-
 What the functions compute, as functions on plain data, and that the program does compute it; written by program.
-/
import Derived.Test.YtaalgpkajkogkaaCode
import Derived.Test.YtaalgpkajkogkaaG1
import Derived.Test.YtaalgpkajkogkaaG5
import Derived.Test.YtaalgpkajkogkaaG8
import Derived.Test.YtaalgpkajkogkaaG10
import Derived.Test.YtaalgpkajkogkaaG13
import Derived.Test.YtaalgpkajkogkaaG14
namespace Go.Proofs.Ytaalgpkajkogkaa.Ax
open Go
set_option maxRecDepth 100000
set_option maxHeartbeats 4000000
noncomputable def Ce (_r1:SAlgebra) (_r3:SCondition) (_u4:Sl1Cur) (r7:Sl15Search):(Int×(List (List Int)))->Option ((Int×(List (List Int))) ⊕ (List (List Int))):=λ(x10,x8)=>
 ((if x10<(↑r7.rows.length:Int) then
 if x10<(40:Int) then
 some (.inl ())
 else
 some (.inr ())
 else
 some (.inr ()):Option (Unit ⊕ Unit))).bind λt=>match t with
 | (.inl _)=>(ask ((0:Int)<=x10/\x10<(↑r7.rows.length:Int)) <|
 (Fc (nth r7.rows x10.toNat)).bind λr12=>
 ask ((x8).length+([r12]).length<=LIM) <|
 ask (InI (x10+(1:Int))) <|
 some (.inl (x10+(1:Int),x8++[r12])))
 | (.inr _)=>(some (.inr x8))
def Ho (r1:SAlgebra) (r3:SCondition) (u4:Sl1Cur) (r7:Sl15Search):(Int×(List (List Int)))->St:=λs=>[(10,A.val (Ae s.1)),(9,A.val (rP true Aw r7)),(8,A.val (slr true 1 (slr true 1 Ae) s.2)),(7,A.val (rP true (Ah false) r3)),(6,A.val (rP true (Aj false) r1)),(5,A.val (rP true (Al false) u4)),(3,A.val ((rP true (Ah true)) ({ Arity:=(0:Int),Rules:=Av SRule }))),(2,A.val ((rP true (Aj true)) ({ Size:=(0:Int),Ops:=Av SOp })))]
def Lq (r1:SAlgebra) (r3:SCondition) (u4:Sl1Cur) (_r7:Sl15Search):(List (List Int))->Tgt
 | s=>((Ex.exit 0),[8,7,6,5,3,2],[(8,A.val (slr true 1 (slr true 1 Ae) s)),(7,A.val (rP true (Ah false) r3)),(6,A.val (rP true (Aj false) r1)),(5,A.val (rP true (Al false) u4)),(3,A.val ((rP true (Ah true)) ({ Arity:=(0:Int),Rules:=Av SRule }))),(2,A.val ((rP true (Aj true)) ({ Size:=(0:Int),Ops:=Av SOp })))])
theorem U4 {r1} {r3} {u4} {r7} (s) o (h:Ce r1 r3 u4 r7 s=some o):vc Try.prog Lm (Ch [10,9,8,7,6,5,3,2] (Ho r1 r3 u4 r7) (Lq r1 r3 u4 r7) o) (Ho r1 r3 u4 r7 s):=by
 obtain ⟨x10,x8⟩:=s;unfold Ce at h;try dsimp only at h
 refine CutQ.o (λt:(Unit ⊕ Unit)=>match t with | (.inl s)=>(Ex.normal,[10,9,8,7,6,5,3,2],[(10,A.val (Ae (x10))),(9,A.val ((rP true (Aw)) (r7))),(8,A.val ((slr true 1 (slr true 1 Ae)) (x8))),(7,A.val ((rP true (Ah false)) (r3))),(6,A.val ((rP true (Aj false)) (r1))),(5,A.val ((rP true (Al false)) (u4))),(3,A.val ((rP true (Ah true)) ({ Arity:=(0:Int),Rules:=Av SRule }))),(2,A.val ((rP true (Aj true)) ({ Size:=(0:Int),Ops:=Av SOp })))]) | (.inr s)=>((Ex.exit 0),[8,7,6,5,3,2],[(8,A.val ((slr true 1 (slr true 1 Ae)) (x8))),(7,A.val ((rP true (Ah false)) (r3))),(6,A.val ((rP true (Aj false)) (r1))),(5,A.val ((rP true (Al false)) (u4))),(3,A.val ((rP true (Ah true)) ({ Arity:=(0:Int),Rules:=Av SRule }))),(2,A.val ((rP true (Aj true)) ({ Size:=(0:Int),Ops:=Av SOp })))])) h ?_ ?_
 ·intro t h;refine Cells.lit rfl rfl<|Kid.lit rfl rfl<|Len.map<|Br.od h (λp8 h=> ?_) (λp8 h=> ?_)
  ·refine Br.yes<|Br.yes<|Br.od h (λp9 h=> ?_) (λp9 h=> ?_)
   ·cases h;exact ⟨rfl,rfl⟩
   cases h;exact ⟨rfl,rfl⟩
  refine Br.no<|Br.no<|Br.no ?_
  cases h;exact ⟨rfl,rfl⟩
 rintro (⟨⟩ | ⟨⟩) h
 ·try dsimp only at h
  refine Cells.lit rfl rfl<|Kid.lit rfl rfl<|Len.map<|Ask.o h λp11 h=>Kid.lit rfl rfl<|Cells.one (λ_=>⟨rfl,rfl⟩) (by first | omega | (simp [Au] at * <;> omega))<|CallQ.o (slr true 1 Ae) (by rfl) h (λr h=>P0 h) (λr12 h=> ?_)
  refine BslQ.o (slr true 1 Ae) [r12] (by exact λ_=>⟨rfl,rfl⟩) (by rfl)<|NoOwn.own rfl<|AppQ.o (m:=1) (slr true 1 Ae) (by exact λ_=>⟨rfl,rfl⟩) (x8) ([r12]) (by rfl) (by rfl) h λh=>Ask.o h λp13 h=> ?_
  cases h;exact ⟨rfl,rfl⟩
 try dsimp only at h
 cases h;exact ⟨rfl,rfl⟩
noncomputable def Cz (r1:SAlgebra) (_r3:SCondition) (_q15_8:List (List Int)) (_u17:Sl1Cur):(Int×Bool)->Option ((Int×Bool) ⊕ Bool):=λ(x12,x11)=>
 if x12<(↑r1.Ops.length:Int) then
 if (x11)=true then
 ask ((0:Int)<=x12/\x12<(↑r1.Ops.length:Int)) <|
 ask (InI (x12+(1:Int))) <|
 some (.inl (x12+(1:Int),decide ((nth r1.Ops x12.toNat).Arity<(3:Int))))
 else
 ask (InI (x12+(1:Int))) <|
 some (.inl (x12+(1:Int),false))
 else
 some (.inr x11)
def Hl (r1:SAlgebra) (r3:SCondition) (q15_8:List (List Int)) (u17:Sl1Cur):(Int×Bool)->St:=λs=>[(12,A.val (Ae s.1)),(11,A.val (V.bool s.2)),(8,A.val (slr true 1 (slr true 1 Ae) q15_8)),(7,A.val (rP true (Ah false) r3)),(6,A.val (rP true (Aj false) r1)),(5,A.val (rP true (Al false) u17)),(3,A.val ((rP true (Ah true)) ({ Arity:=(0:Int),Rules:=Av SRule }))),(2,A.val ((rP true (Aj true)) ({ Size:=(0:Int),Ops:=Av SOp })))]
def L3 (r1:SAlgebra) (r3:SCondition) (q15_8:List (List Int)) (u17:Sl1Cur):Bool->Tgt
 | s=>((Ex.exit 3),[11,8,7,6,5,3,2],[(11,A.val (V.bool s)),(8,A.val (slr true 1 (slr true 1 Ae) q15_8)),(7,A.val (rP true (Ah false) r3)),(6,A.val (rP true (Aj false) r1)),(5,A.val (rP true (Al false) u17)),(3,A.val ((rP true (Ah true)) ({ Arity:=(0:Int),Rules:=Av SRule }))),(2,A.val ((rP true (Aj true)) ({ Size:=(0:Int),Ops:=Av SOp })))])
theorem U1 {r1} {r3} {q15_8} {u17} (s) o (h:Cz r1 r3 q15_8 u17 s=some o):vc Try.prog Lx (Ch [12,11,8,7,6,5,3,2] (Hl r1 r3 q15_8 u17) (L3 r1 r3 q15_8 u17) o) (Hl r1 r3 q15_8 u17 s):=by
 obtain ⟨x12,x11⟩:=s;unfold Cz at h;try dsimp only at h
 refine Cells.lit rfl rfl<|Len.map<|Br.od h (λp48 h=> ?_) (λp48 h=> ?_)
 ·refine Br.ob h (λp49 h=> ?_) (λp49 h=> ?_)
  ·refine Br.yes<|Cells.lit rfl rfl<|Br.yes<|Br.yes<|Len.map<|Ask.o h λp50 h=>Elem.o (by first | omega | (simp [Au] at * <;> omega))<|Br.yes<|Br.yes<|Br.yes<|Br.yes<|Ask.o h λp51 h=> ?_
   cases h;exact ⟨rfl,rfl⟩
  refine Br.no<|Br.no<|Br.no<|Br.no<|Br.no<|Br.no<|Br.no<|Ask.o h λp52 h=> ?_
  cases h;exact ⟨rfl,rfl⟩
 cases h;exact ⟨rfl,rfl⟩
noncomputable def Cx (_r1:SAlgebra) (_r3:SCondition) (q53_11:Bool) (r54:Int):(List (List Int))->Option ((List (List Int)) ⊕ (List (List Int))):=λx8=>
 if (q53_11)=true then
 if (↑x8.length:Int)<(149:Int)+r54 then
 ask ((0:Int)<=(0:Int)/\(0:Int)<(↑x8.length:Int)) <|
 ask ((x8).length+([nth x8 (Int.toNat (0:Int))]).length<=LIM) <|
 some (.inl (x8++[nth x8 (Int.toNat (0:Int))]))
 else
 some (.inr x8)
 else
 some (.inr x8)
def Hr (r1:SAlgebra) (r3:SCondition) (q53_11:Bool) (r54:Int):(List (List Int))->St:=λs=>[(8,A.val (slr true 1 (slr false 1 Ae) s)),(13,A.val (Ae ((149:Int)+r54))),(11,A.val (V.bool q53_11)),(7,A.val (rP true (Ah false) r3)),(6,A.val (rP true (Aj false) r1)),(3,A.val ((rP true (Ah true)) ({ Arity:=(0:Int),Rules:=Av SRule }))),(2,A.val ((rP true (Aj true)) ({ Size:=(0:Int),Ops:=Av SOp })))]
def L0 (r1:SAlgebra) (r3:SCondition) (_q53_11:Bool) (_r54:Int):(List (List Int))->Tgt
 | s=>((Ex.exit 5),[8,7,6,3,2],[(8,A.val (slr true 1 (slr false 1 Ae) s)),(7,A.val (rP true (Ah false) r3)),(6,A.val (rP true (Aj false) r1)),(3,A.val ((rP true (Ah true)) ({ Arity:=(0:Int),Rules:=Av SRule }))),(2,A.val ((rP true (Aj true)) ({ Size:=(0:Int),Ops:=Av SOp })))])
theorem Ve {r1} {r3} {q53_11} {r54} (x8) o (h:Cx r1 r3 q53_11 r54 x8=some o):vc Try.prog Lw (Ch [8,13,11,7,6,3,2] (Hr r1 r3 q53_11 r54) (L0 r1 r3 q53_11 r54) o) (Hr r1 r3 q53_11 r54 x8):=by
 unfold Cx at h;try dsimp only at h
 refine Br.ob h (λp57 h=> ?_) (λp57 h=> ?_)
 ·refine Br.yes<|Len.map<|Br.yes<|Br.yes<|Br.yes<|Br.od h (λp58 h=> ?_) (λp58 h=> ?_)
  ·refine Len.map<|Ask.o h λp59 h=>Cells.one (λ_=>⟨rfl,rfl⟩) (by first | omega | (simp [Au] at * <;> omega))<|BslQ.o (slr false 1 Ae) ([nth x8 (Int.toNat (0:Int))]) (by exact λ_=>⟨rfl,rfl⟩) (by rfl)<|NoOwn.o (λ_=>rfl)<|AppQ.o (m:=1) (slr false 1 Ae) (by exact λ_=>⟨rfl,rfl⟩) (x8) ([nth x8 (Int.toNat (0:Int))]) (by rfl) (by rfl) h λh=> ?_
   cases h;exact ⟨rfl,rfl⟩
  cases h;exact ⟨rfl,rfl⟩
 refine Br.no<|Br.no<|Br.no<|Br.no<|Br.no ?_
 cases h;exact ⟨rfl,rfl⟩
noncomputable def E3 (code0:(List Int)):Option (SAlgebra×SCondition×(List (List Int))):=
 (Da ({ code:=code0,at_:=(0:Int),seed:=(0:Int) })).bind λ(r1,u2)=>
 (Df (u2)).bind λ(r3,u4)=>
 (((Er (r1) (r3)).bind λr5=>
 if (r5)=true then
 (Et (r1) (r3)).bind λr7=>
 (Aq (Ce r1 r3 u4 r7) ((0:Int),Av (List Int))).bind λq14_8=>
 some q14_8
 else
 some (Av (List Int)):Option (List (List Int)))).bind λq15_8=>
 (As (u4) ((8:Int))).bind λ(r16,u17)=>
 if r16=(0:Int) then
 if (↑q15_8.length:Int)>(0:Int) then
 ask (0<=(1:Int)/\(1:Int)<=(↑q15_8.length:Int)/\(↑q15_8.length:Int)<=((q15_8.length:Nat):Int)) <|
 some (r1,r3,List.take ((↑q15_8.length:Int).toNat-Int.toNat (1:Int)) (List.drop (Int.toNat (1:Int)) q15_8))
 else
 some (r1,r3,q15_8)
 else
 if r16=(1:Int) then
 ((if (↑q15_8.length:Int)>(0:Int) then
 ask ((0:Int)<=(0:Int)/\(0:Int)<(↑q15_8.length:Int)) <|
 some (decide ((↑(nth q15_8 (Int.toNat (0:Int))).length:Int)>(0:Int)))
 else
 some false:Option Bool)).bind λq23_68=>
 if (q23_68)=true then
 ask ((0:Int)<=(0:Int)/\(0:Int)<(↑q15_8.length:Int)) <|
 (As (u17) ((↑(nth q15_8 (Int.toNat (0:Int))).length:Int))).bind λ(r26,u27)=>
 (A5 (u27) ([(0:Int),(1:Int),(-1:Int),r1.Size])).bind λ(r28,_u29)=>
 ask ((0:Int)<=r26/\r26<(↑(nth q15_8 (Int.toNat (0:Int))).length:Int)) <|
 some (r1,r3,q15_8.set (Int.toNat (0:Int)) ((nth q15_8 (Int.toNat (0:Int))).set r26.toNat r28))
 else
 some (r1,r3,q15_8)
 else
 if r16=(2:Int) then
 ask ((q15_8).length+([[(0:Int)]]).length<=LIM) <|
 some (r1,r3,q15_8++[[(0:Int)]])
 else
 if r16=(3:Int) then
 (Aq (Cz r1 r3 q15_8 u17) ((0:Int),decide ((↑q15_8.length:Int)>(0:Int)))).bind λq53_11=>
 (As (u17) ((3:Int))).bind λ(r54,_u55)=>
 ask (InI ((149:Int)+r54)) <|
 (Aq (Cx r1 r3 q53_11 r54) q15_8).bind λq60_8=>
 some (r1,r3,q60_8)
 else
 some (r1,r3,q15_8)
theorem Yx {code0} {v} (h:E3 code0=some v):Ret Try.prog I6 [(slr false 1 (V.int IntKind.u8)) code0] ((λr=>V.tup [(Aj false) r.1,(Ah false) r.2.1,(slr false 1 (slr false 1 Ae)) r.2.2]) v):=by
 refine Aby Yy (Nat.le_of_ble_eq_true rfl) ?_;unfold E3 at h;refine CallQ.io (Aj false) (rP true (Al false)) (by rfl) rfl (λ_=>rfl) (λ_=>⟨rfl,rfl⟩) rfl h (λr h=>Sn.frz (Kd h) (by first | rfl | simp only [V.fz,fzL,Ab] | simp [Aa,V.fz,fzL,V.up,upL,Ab,Ac,Ad,slr])) (λr1 u2 h=> ?_);refine CallQ.io (Ah false) (rP true (Al false)) (by rfl) rfl (λ_=>rfl) (λ_=>⟨rfl,rfl⟩) rfl h (λr h=>Jq h) (λr3 u4 h=> ?_);refine SetKids.lit rfl<|SetKids.lit rfl<|BslQ.o (slr true 1 Ae) (Av (List Int)) (by exact λ_=>⟨rfl,rfl⟩) (by rfl)<|CutQ.o (λt:(List (List Int))=>match t with | s=>(Ex.normal,[8,7,6,5,3,2],[(8,A.val ((slr true 1 (slr true 1 Ae)) s)),(7,A.val ((rP true (Ah false)) (r3))),(6,A.val ((rP true (Aj false)) (r1))),(5,A.val ((rP true (Al false)) (u4))),(3,A.val ((rP true (Ah true)) ({ Arity:=(0:Int),Rules:=Av SRule }))),(2,A.val ((rP true (Aj true)) ({ Size:=(0:Int),Ops:=Av SOp })))])) h ?_ ?_
 ·intro t h;refine Cells.lit rfl rfl<|Cells.lit rfl rfl<|CallQ.o V.bool (by rfl) h (λr h=>Ix h) (λr5 h=> ?_)
  refine Br.ob h (λp6 h=> ?_) (λp6 h=> ?_)
  ·refine Cells.lit rfl rfl<|Cells.lit rfl rfl<|CallQ.o (Aw) (by rfl) h (λr h=>Pn h) (λr7 h=> ?_)
   refine SetKids.lit rfl<|LoopQ.o [10,9,8,7,6,5,3,2] (Ho r1 r3 u4 r7) (Lq r1 r3 u4 r7) h (λs o h=>U4 s o h) (by rfl) (λ_=>rfl) ?_
   rintro q14_8 h;try dsimp only at h
   cases h;exact ⟨rfl,rfl⟩
  cases h;exact ⟨rfl,rfl⟩
 rintro q15_8 h;try dsimp only at h
 refine CallQ.io Ae (rP true (Al false)) (by rfl) rfl (λ_=>rfl) (λ_=>⟨rfl,rfl⟩) rfl h (λr h=>At h) (λr16 u17 h=> ?_);refine Br.oe h (λp18 h=> ?_) (λp18 h=> ?_)
 ·refine Len.map<|Br.od h (λp19 h=> ?_) (λp19 h=> ?_)
  ·refine FrzQ.d (V.sl false (1:Nat) (List.map (slr false (1:Nat) Ae) q15_8)) (by first | (simp only [slr];done) | exact (Ak _).trans (Eq.trans (b:=V.fz (V.sl true (1:Nat) (List.map (slr true (1:Nat) Ae) q15_8))) rfl (Ac _ _ _)) | (simp [Ak,V.fz,Ab,Ac,slr];done) | (simp [Ak,V.fz,fzL,Ab,slr];done))<|Len.map<|SlcQ.o (slr false 1 Ae) h λh=>FrzQ.z<|Cells.lit rfl rfl<|Cells.lit rfl rfl<|Cells.lit rfl rfl<|SameQ.mk ⟨rfl,?_⟩
   refine Cells.lit rfl rfl<|SameQ.mk ⟨rfl,?_⟩
   refine SameQ.mk ⟨rfl,?_⟩;refine SetKids.lit rfl<|Cells.lit rfl rfl<|SameQ.mk ⟨rfl,?_⟩
   refine SameQ.mk ⟨rfl,?_⟩;refine SetKids.lit rfl<|SameQ.mk ⟨rfl,?_⟩
   cases h;exact (by rfl)
  refine FrzQ.d (V.sl false (1:Nat) (List.map (slr false (1:Nat) Ae) q15_8)) (by first | (simp only [slr];done) | exact (Ak _).trans (Eq.trans (b:=V.fz (V.sl true (1:Nat) (List.map (slr true (1:Nat) Ae) q15_8))) rfl (Ac _ _ _)) | (simp [Ak,V.fz,Ab,Ac,slr];done) | (simp [Ak,V.fz,fzL,Ab,slr];done))<|Cells.lit rfl rfl<|Cells.lit rfl rfl<|Cells.lit rfl rfl<|SameQ.mk ⟨rfl,?_⟩
  refine Cells.lit rfl rfl<|SameQ.mk ⟨rfl,?_⟩
  refine SameQ.mk ⟨rfl,?_⟩;refine SetKids.lit rfl<|Cells.lit rfl rfl<|SameQ.mk ⟨rfl,?_⟩
  refine SameQ.mk ⟨rfl,?_⟩;refine SetKids.lit rfl<|SameQ.mk ⟨rfl,?_⟩
  cases h;exact (by rfl)
 refine Br.oe h (λp20 h=> ?_) (λp20 h=> ?_)
 ·refine CutQ.o (λt:Bool=>match t with | s=>(Ex.normal,[68,8,7,6,5,3,2],[(68,A.val (V.bool s)),(8,A.val ((slr true 1 (slr true 1 Ae)) (q15_8))),(7,A.val ((rP true (Ah false)) (r3))),(6,A.val ((rP true (Aj false)) (r1))),(5,A.val ((rP true (Al false)) (u17))),(3,A.val ((rP true (Ah true)) ({ Arity:=(0:Int),Rules:=Av SRule }))),(2,A.val ((rP true (Aj true)) ({ Size:=(0:Int),Ops:=Av SOp })))])) h ?_ ?_
  ·intro t h;refine Len.map<|Br.od h (λp21 h=> ?_) (λp21 h=> ?_)
   ·refine Br.yes<|Len.map<|Ask.o h λp22 h=>Br.yes<|Cells.one (λ_=>⟨rfl,rfl⟩) (by first | omega | (simp [Au] at * <;> omega))<|Br.yes<|Kid.one (λ_=>⟨rfl,rfl⟩) (by first | omega | (simp [Au] at * <;> omega))<|Len.map<|Br.yes<|Br.yes ?_
    cases h;exact ⟨rfl,rfl⟩
   refine Br.no<|Br.no<|Br.no<|Br.no<|Br.no ?_
   cases h;exact ⟨rfl,rfl⟩
  rintro q23_68 h;try dsimp only at h
  refine Br.ob h (λp24 h=> ?_) (λp24 h=> ?_)
  ·refine Len.map<|Ask.o h λp25 h=>Cells.one (λ_=>⟨rfl,rfl⟩) (by first | omega | (simp [Au] at * <;> omega))<|Len.map<|Ask.mk p25<|Cells.one (λ_=>⟨rfl,rfl⟩) (by first | omega | (simp [Au] at * <;> omega))<|Cells.lit rfl rfl ?_
   obtain ⟨⟨r26,u27⟩,e31,h⟩:=Option.bind_eq_some_iff.1 h;try dsimp only at h
   obtain ⟨⟨r28,u29⟩,e32,h⟩:=Option.bind_eq_some_iff.1 h;try dsimp only at h
   obtain ⟨p33,h⟩:=P7.1 h;refine Two.mk ⟨?_,?_⟩
   ·refine SameQ.mk ⟨rfl,?_⟩;refine Len.map<|Ask.mk p25<|SameQ.mk ⟨rfl,?_⟩
    refine Cells.one (λ_=>⟨rfl,rfl⟩) (by first | omega | (simp [Au] at * <;> omega))<|SameQ.mk ⟨rfl,?_⟩
    refine SameQ.mk ⟨rfl,?_⟩;refine SameQ.mk ⟨rfl,?_⟩;refine Len.map<|Ask.mk p25<|SameQ.mk ⟨rfl,?_⟩
    refine Cells.one (λ_=>⟨rfl,rfl⟩) (by first | omega | (simp [Au] at * <;> omega))<|SameQ.mk ⟨rfl,?_⟩
    refine SameQ.mk ⟨rfl,?_⟩;refine SameQ.mk ⟨rfl,?_⟩;refine Cells.lit rfl rfl<|SameQ.mk ⟨rfl,?_⟩
    refine Kid.one (λ_=>⟨rfl,rfl⟩) (by first | omega | (simp [Au] at * <;> omega))<|Len.map<|Two.mk ⟨?_,?_⟩
    ·refine SameQ.mk ⟨rfl,?_⟩;refine Len.map<|Ask.mk p25<|SameQ.mk ⟨rfl,?_⟩
     refine Cells.one (λ_=>⟨rfl,rfl⟩) (by first | omega | (simp [Au] at * <;> omega))<|SameQ.mk ⟨rfl,?_⟩
     refine SameQ.mk ⟨rfl,?_⟩;refine SameQ.mk ⟨rfl,?_⟩;refine SameQ.mk ⟨rfl,?_⟩;refine Cells.lit rfl rfl<|SameQ.mk ⟨rfl,?_⟩
     refine CallQ.io Ae (rP true (Al false)) (by rfl) rfl (λ_=>rfl) (λ_=>⟨rfl,rfl⟩) rfl (show Option.bind (As (u17) ((↑(nth q15_8 (Int.toNat (0:Int))).length:Int))) some=some (r26,u27) by rw [e31];rfl) (λr h=>At h) (λb34 c35 hb=> ?_);obtain ⟨rfl,rfl⟩:r26=b34/\u27=c35:=by cases hb;exact ⟨rfl,rfl⟩
     refine SameQ.mk ⟨rfl,?_⟩;refine Len.map<|Ask.mk p25<|SameQ.mk ⟨rfl,?_⟩
     refine Cells.one (λ_=>⟨rfl,rfl⟩) (by first | omega | (simp [Au] at * <;> omega))<|SameQ.mk ⟨rfl,?_⟩
     refine SameQ.mk ⟨rfl,?_⟩;refine SameQ.mk ⟨rfl,?_⟩;refine Cells.lit rfl rfl<|SameQ.mk ⟨rfl,?_⟩
     refine BslQ.o Ae ([(0:Int),(1:Int),(-1:Int),r1.Size]) (by exact λ_=>⟨rfl,rfl⟩) (by rfl)<|SameQ.mk ⟨rfl,?_⟩
     refine Len.map<|Ask.mk p25<|SameQ.mk ⟨rfl,?_⟩
     refine Cells.one (λ_=>⟨rfl,rfl⟩) (by first | omega | (simp [Au] at * <;> omega))<|SameQ.mk ⟨rfl,?_⟩
     refine SameQ.mk ⟨rfl,?_⟩;refine CallQ.io Ae (rP true (Al false)) (by rfl) rfl (λ_=>rfl) (λ_=>⟨rfl,rfl⟩) rfl (show Option.bind (A5 (u27) ([(0:Int),(1:Int),(-1:Int),r1.Size])) some=some (r28,u29) by rw [e32];rfl) (λr h=>Bc h) (λb36 c37 hb=> ?_);obtain ⟨rfl,rfl⟩:r28=b36/\u29=c37:=by cases hb;exact ⟨rfl,rfl⟩
     refine SameQ.mk ⟨rfl,?_⟩;refine Len.map<|Ask.mk p25<|SameQ.mk ⟨rfl,?_⟩
     refine Cells.one (λ_=>⟨rfl,rfl⟩) (by first | omega | (simp [Au] at * <;> omega))<|SameQ.mk ⟨rfl,?_⟩
     refine Kid.one (λ_=>⟨rfl,rfl⟩) (by first | omega | (simp [Au] at * <;> omega))<|Len.map<|Ask.mk p33<|Kid.one (λ_=>⟨rfl,rfl⟩) (by first | omega | (simp [Au] at * <;> omega))<|SetKids.one (λ_=>⟨rfl,rfl⟩) (r28) (by rfl) (by first | omega | (simp [Au] at * <;> omega))<|Kid.one (λ_=>⟨rfl,rfl⟩) (by first | omega | (simp [Au] at * <;> omega))<|SetKids.one (λ_=>⟨rfl,rfl⟩) ((nth q15_8 (Int.toNat (0:Int))).set r26.toNat r28) (by rfl) (by first | omega | (simp [Au] at * <;> omega))<|FrzQ.d (V.sl false (1:Nat) (List.map (slr false (1:Nat) Ae) (q15_8.set (Int.toNat (0:Int)) ((nth q15_8 (Int.toNat (0:Int))).set r26.toNat r28)))) (by first | (simp only [Ak,Ac,slr];done) | exact (Ak _).trans (Eq.trans (b:=V.fz (V.sl true (1:Nat) (List.map (slr true (1:Nat) Ae) (q15_8.set (Int.toNat (0:Int)) ((nth q15_8 (Int.toNat (0:Int))).set r26.toNat r28))))) rfl (Ac _ _ _)) | (simp [Ak,V.fz,Ab,Ac,slr];done) | (simp [Ak,V.fz,fzL,Ab,slr];done))<|Cells.lit rfl rfl<|Cells.lit rfl rfl<|Cells.lit rfl rfl<|SameQ.mk ⟨rfl,?_⟩
     refine Cells.lit rfl rfl<|SameQ.mk ⟨rfl,?_⟩
     refine SameQ.mk ⟨rfl,?_⟩;refine SetKids.lit rfl<|Cells.lit rfl rfl<|SameQ.mk ⟨rfl,?_⟩
     refine SameQ.mk ⟨rfl,?_⟩;refine SetKids.lit rfl<|SameQ.mk ⟨rfl,?_⟩
     cases h;exact (by rfl)
    refine SameQ.mk ⟨rfl,?_⟩;refine Len.map<|Ask.mk p25<|SameQ.mk ⟨rfl,?_⟩
    refine Cells.one (λ_=>⟨rfl,rfl⟩) (by first | omega | (simp [Au] at * <;> omega))<|SameQ.mk ⟨rfl,?_⟩
    refine SameQ.mk ⟨rfl,?_⟩;refine SameQ.mk ⟨rfl,?_⟩;refine SameQ.mk ⟨rfl,?_⟩;refine Cells.lit rfl rfl<|SameQ.mk ⟨rfl,?_⟩
    refine BslQ.o Ae ([(0:Int),(1:Int),(-1:Int),r1.Size]) (by exact λ_=>⟨rfl,rfl⟩) (by rfl)<|SameQ.mk ⟨rfl,?_⟩
    refine Len.map<|Ask.mk p25<|SameQ.mk ⟨rfl,?_⟩
    refine Cells.one (λ_=>⟨rfl,rfl⟩) (by first | omega | (simp [Au] at * <;> omega))<|SameQ.mk ⟨rfl,?_⟩
    refine SameQ.mk ⟨rfl,?_⟩;refine SameQ.mk ⟨rfl,?_⟩;refine CallQ.io Ae (rP true (Al false)) (by rfl) rfl (λ_=>rfl) (λ_=>⟨rfl,rfl⟩) rfl (show Option.bind (As (u17) ((↑(nth q15_8 (Int.toNat (0:Int))).length:Int))) some=some (r26,u27) by rw [e31];rfl) (λr h=>At h) (λb38 c39 hb=> ?_);obtain ⟨rfl,rfl⟩:r26=b38/\u27=c39:=by cases hb;exact ⟨rfl,rfl⟩
    refine SameQ.mk ⟨rfl,?_⟩;refine Len.map<|Ask.mk p25<|SameQ.mk ⟨rfl,?_⟩
    refine Cells.one (λ_=>⟨rfl,rfl⟩) (by first | omega | (simp [Au] at * <;> omega))<|SameQ.mk ⟨rfl,?_⟩
    refine SameQ.mk ⟨rfl,?_⟩;refine CallQ.io Ae (rP true (Al false)) (by rfl) rfl (λ_=>rfl) (λ_=>⟨rfl,rfl⟩) rfl (show Option.bind (A5 (u27) ([(0:Int),(1:Int),(-1:Int),r1.Size])) some=some (r28,u29) by rw [e32];rfl) (λr h=>Bc h) (λb40 c41 hb=> ?_);obtain ⟨rfl,rfl⟩:r28=b40/\u29=c41:=by cases hb;exact ⟨rfl,rfl⟩
    refine SameQ.mk ⟨rfl,?_⟩;refine Len.map<|Ask.mk p25<|SameQ.mk ⟨rfl,?_⟩
    refine Cells.one (λ_=>⟨rfl,rfl⟩) (by first | omega | (simp [Au] at * <;> omega))<|SameQ.mk ⟨rfl,?_⟩
    refine Kid.one (λ_=>⟨rfl,rfl⟩) (by first | omega | (simp [Au] at * <;> omega))<|Len.map<|Ask.mk p33<|Kid.one (λ_=>⟨rfl,rfl⟩) (by first | omega | (simp [Au] at * <;> omega))<|SetKids.one (λ_=>⟨rfl,rfl⟩) (r28) (by rfl) (by first | omega | (simp [Au] at * <;> omega))<|Kid.one (λ_=>⟨rfl,rfl⟩) (by first | omega | (simp [Au] at * <;> omega))<|SetKids.one (λ_=>⟨rfl,rfl⟩) ((nth q15_8 (Int.toNat (0:Int))).set r26.toNat r28) (by rfl) (by first | omega | (simp [Au] at * <;> omega))<|FrzQ.d (V.sl false (1:Nat) (List.map (slr false (1:Nat) Ae) (q15_8.set (Int.toNat (0:Int)) ((nth q15_8 (Int.toNat (0:Int))).set r26.toNat r28)))) (by first | (simp only [Ak,Ac,slr];done) | exact (Ak _).trans (Eq.trans (b:=V.fz (V.sl true (1:Nat) (List.map (slr true (1:Nat) Ae) (q15_8.set (Int.toNat (0:Int)) ((nth q15_8 (Int.toNat (0:Int))).set r26.toNat r28))))) rfl (Ac _ _ _)) | (simp [Ak,V.fz,Ab,Ac,slr];done) | (simp [Ak,V.fz,fzL,Ab,slr];done))<|Cells.lit rfl rfl<|Cells.lit rfl rfl<|Cells.lit rfl rfl<|SameQ.mk ⟨rfl,?_⟩
    refine Cells.lit rfl rfl<|SameQ.mk ⟨rfl,?_⟩
    refine SameQ.mk ⟨rfl,?_⟩;refine SetKids.lit rfl<|Cells.lit rfl rfl<|SameQ.mk ⟨rfl,?_⟩
    refine SameQ.mk ⟨rfl,?_⟩;refine SetKids.lit rfl<|SameQ.mk ⟨rfl,?_⟩
    cases h;exact (by rfl)
   refine SameQ.mk ⟨rfl,?_⟩;refine Len.map<|Ask.mk p25<|SameQ.mk ⟨rfl,?_⟩
   refine Cells.one (λ_=>⟨rfl,rfl⟩) (by first | omega | (simp [Au] at * <;> omega))<|SameQ.mk ⟨rfl,?_⟩
   refine SameQ.mk ⟨rfl,?_⟩;refine SameQ.mk ⟨rfl,?_⟩;refine Len.map<|Ask.mk p25<|SameQ.mk ⟨rfl,?_⟩
   refine Cells.one (λ_=>⟨rfl,rfl⟩) (by first | omega | (simp [Au] at * <;> omega))<|SameQ.mk ⟨rfl,?_⟩
   refine SameQ.mk ⟨rfl,?_⟩;refine SameQ.mk ⟨rfl,?_⟩;refine Cells.lit rfl rfl<|SameQ.mk ⟨rfl,?_⟩
   refine BslQ.o Ae ([(0:Int),(1:Int),(-1:Int),r1.Size]) (by exact λ_=>⟨rfl,rfl⟩) (by rfl)<|SameQ.mk ⟨rfl,?_⟩
   refine Len.map<|Ask.mk p25<|SameQ.mk ⟨rfl,?_⟩
   refine Cells.one (λ_=>⟨rfl,rfl⟩) (by first | omega | (simp [Au] at * <;> omega))<|SameQ.mk ⟨rfl,?_⟩
   refine SameQ.mk ⟨rfl,?_⟩;refine SameQ.mk ⟨rfl,?_⟩;refine Len.map<|Ask.mk p25<|SameQ.mk ⟨rfl,?_⟩
   refine Cells.one (λ_=>⟨rfl,rfl⟩) (by first | omega | (simp [Au] at * <;> omega))<|SameQ.mk ⟨rfl,?_⟩
   refine SameQ.mk ⟨rfl,?_⟩;refine Kid.one (λ_=>⟨rfl,rfl⟩) (by first | omega | (simp [Au] at * <;> omega))<|Len.map<|SameQ.mk ⟨rfl,?_⟩
   refine Len.map<|Ask.mk p25<|SameQ.mk ⟨rfl,?_⟩
   refine Cells.one (λ_=>⟨rfl,rfl⟩) (by first | omega | (simp [Au] at * <;> omega))<|SameQ.mk ⟨rfl,?_⟩
   refine SameQ.mk ⟨rfl,?_⟩;refine SameQ.mk ⟨rfl,?_⟩;refine CallQ.io Ae (rP true (Al false)) (by rfl) rfl (λ_=>rfl) (λ_=>⟨rfl,rfl⟩) rfl (show Option.bind (As (u17) ((↑(nth q15_8 (Int.toNat (0:Int))).length:Int))) some=some (r26,u27) by rw [e31];rfl) (λr h=>At h) (λb42 c43 hb=> ?_);obtain ⟨rfl,rfl⟩:r26=b42/\u27=c43:=by cases hb;exact ⟨rfl,rfl⟩
   refine SameQ.mk ⟨rfl,?_⟩;refine Len.map<|Ask.mk p25<|SameQ.mk ⟨rfl,?_⟩
   refine Cells.one (λ_=>⟨rfl,rfl⟩) (by first | omega | (simp [Au] at * <;> omega))<|SameQ.mk ⟨rfl,?_⟩
   refine SameQ.mk ⟨rfl,?_⟩;refine CallQ.io Ae (rP true (Al false)) (by rfl) rfl (λ_=>rfl) (λ_=>⟨rfl,rfl⟩) rfl (show Option.bind (A5 (u27) ([(0:Int),(1:Int),(-1:Int),r1.Size])) some=some (r28,u29) by rw [e32];rfl) (λr h=>Bc h) (λb44 c45 hb=> ?_);obtain ⟨rfl,rfl⟩:r28=b44/\u29=c45:=by cases hb;exact ⟨rfl,rfl⟩
   refine SameQ.mk ⟨rfl,?_⟩;refine Len.map<|Ask.mk p25<|SameQ.mk ⟨rfl,?_⟩
   refine Cells.one (λ_=>⟨rfl,rfl⟩) (by first | omega | (simp [Au] at * <;> omega))<|SameQ.mk ⟨rfl,?_⟩
   refine Kid.one (λ_=>⟨rfl,rfl⟩) (by first | omega | (simp [Au] at * <;> omega))<|Len.map<|Ask.mk p33<|Kid.one (λ_=>⟨rfl,rfl⟩) (by first | omega | (simp [Au] at * <;> omega))<|SetKids.one (λ_=>⟨rfl,rfl⟩) (r28) (by rfl) (by first | omega | (simp [Au] at * <;> omega))<|Kid.one (λ_=>⟨rfl,rfl⟩) (by first | omega | (simp [Au] at * <;> omega))<|SetKids.one (λ_=>⟨rfl,rfl⟩) ((nth q15_8 (Int.toNat (0:Int))).set r26.toNat r28) (by rfl) (by first | omega | (simp [Au] at * <;> omega))<|FrzQ.d (V.sl false (1:Nat) (List.map (slr false (1:Nat) Ae) (q15_8.set (Int.toNat (0:Int)) ((nth q15_8 (Int.toNat (0:Int))).set r26.toNat r28)))) (by first | (simp only [Ak,Ac,slr];done) | exact (Ak _).trans (Eq.trans (b:=V.fz (V.sl true (1:Nat) (List.map (slr true (1:Nat) Ae) (q15_8.set (Int.toNat (0:Int)) ((nth q15_8 (Int.toNat (0:Int))).set r26.toNat r28))))) rfl (Ac _ _ _)) | (simp [Ak,V.fz,Ab,Ac,slr];done) | (simp [Ak,V.fz,fzL,Ab,slr];done))<|Cells.lit rfl rfl<|Cells.lit rfl rfl<|Cells.lit rfl rfl<|SameQ.mk ⟨rfl,?_⟩
   refine Cells.lit rfl rfl<|SameQ.mk ⟨rfl,?_⟩
   refine SameQ.mk ⟨rfl,?_⟩;refine SetKids.lit rfl<|Cells.lit rfl rfl<|SameQ.mk ⟨rfl,?_⟩
   refine SameQ.mk ⟨rfl,?_⟩;refine SetKids.lit rfl<|SameQ.mk ⟨rfl,?_⟩
   cases h;exact (by rfl)
  refine FrzQ.d (V.sl false (1:Nat) (List.map (slr false (1:Nat) Ae) q15_8)) (by first | (simp only [slr];done) | exact (Ak _).trans (Eq.trans (b:=V.fz (V.sl true (1:Nat) (List.map (slr true (1:Nat) Ae) q15_8))) rfl (Ac _ _ _)) | (simp [Ak,V.fz,Ab,Ac,slr];done) | (simp [Ak,V.fz,fzL,Ab,slr];done))<|Cells.lit rfl rfl<|Cells.lit rfl rfl<|Cells.lit rfl rfl<|SameQ.mk ⟨rfl,?_⟩
  refine Cells.lit rfl rfl<|SameQ.mk ⟨rfl,?_⟩
  refine SameQ.mk ⟨rfl,?_⟩;refine SetKids.lit rfl<|Cells.lit rfl rfl<|SameQ.mk ⟨rfl,?_⟩
  refine SameQ.mk ⟨rfl,?_⟩;refine SetKids.lit rfl<|SameQ.mk ⟨rfl,?_⟩
  cases h;exact (by rfl)
 refine Br.oe h (λp46 h=> ?_) (λp46 h=> ?_)
 ·refine BslQ.o Ae ([(0:Int)]) (by exact λ_=>⟨rfl,rfl⟩) (by rfl)<|BslQ.o (slr true 1 Ae) ([[(0:Int)]]) (by exact λ_=>⟨rfl,rfl⟩) (by rfl)<|NoOwn.own rfl<|AppQ.o (m:=1) (slr true 1 Ae) (by exact λ_=>⟨rfl,rfl⟩) (q15_8) ([[(0:Int)]]) (by rfl) (by rfl) h λh=>FrzQ.d (V.sl false (1:Nat) (List.map (slr false (1:Nat) Ae) (q15_8++[[(0:Int)]]))) (by first | (simp only [Ak,Ac,slr];done) | exact (Ak _).trans (Eq.trans (b:=V.fz (V.sl true (1:Nat) (List.map (slr true (1:Nat) Ae) (q15_8++[[(0:Int)]])))) rfl (Ac _ _ _)) | (simp [Ak,V.fz,Ab,Ac,slr];done) | (simp [Ak,V.fz,fzL,Ab,slr];done))<|Cells.lit rfl rfl<|Cells.lit rfl rfl<|Cells.lit rfl rfl<|SameQ.mk ⟨rfl,?_⟩
  refine Cells.lit rfl rfl<|SameQ.mk ⟨rfl,?_⟩
  refine SameQ.mk ⟨rfl,?_⟩;refine SetKids.lit rfl<|Cells.lit rfl rfl<|SameQ.mk ⟨rfl,?_⟩
  refine SameQ.mk ⟨rfl,?_⟩;refine SetKids.lit rfl<|SameQ.mk ⟨rfl,?_⟩
  cases h;exact (by rfl)
 refine Br.oe h (λp47 h=> ?_) (λp47 h=> ?_)
 ·refine Len.map<|LoopQ.o [12,11,8,7,6,5,3,2] (Hl r1 r3 q15_8 u17) (L3 r1 r3 q15_8 u17) h (λs o h=>U1 s o h) (by rfl) (λ_=>rfl) ?_
  rintro q53_11 h;try dsimp only at h
  refine CallQ.io Ae (rP true (Al false)) (by rfl) rfl (λ_=>rfl) (λ_=>⟨rfl,rfl⟩) rfl h (λr h=>At h) (λr54 u55 h=> ?_);refine Ask.o h λp56 h=>FrzQ.d (V.sl true (1:Nat) (List.map (slr false (1:Nat) Ae) q15_8)) (by first | (simp only [V.fzAt,Im,Ab,slr];done) | exact Eq.trans (b:=V.sl true (1:Nat) (List.map (slr false (1:Nat) Ae) q15_8)) rfl (by simp only [Ac]))<|LoopQ.o [8,13,11,7,6,3,2] (Hr r1 r3 q53_11 r54) (L0 r1 r3 q53_11 r54) h (λs o h=>Ve s o h) (by rfl) (λ_=>rfl) ?_
  rintro q60_8 h;try dsimp only at h
  refine FrzQ.d (V.sl false (1:Nat) (List.map (slr false (1:Nat) Ae) q60_8)) (by first | (simp only [slr];done) | exact (Ak _).trans (Eq.trans (b:=V.fz (V.sl true (1:Nat) (List.map (slr false (1:Nat) Ae) q60_8))) rfl (Ac _ _ _)) | (simp [Ak,V.fz,Ab,Ac,slr];done) | (simp [Ak,V.fz,fzL,Ab,slr];done))<|Cells.lit rfl rfl<|Cells.lit rfl rfl<|Cells.lit rfl rfl<|SameQ.mk ⟨rfl,?_⟩
  refine Cells.lit rfl rfl<|SameQ.mk ⟨rfl,?_⟩
  refine SameQ.mk ⟨rfl,?_⟩;refine SetKids.lit rfl<|Cells.lit rfl rfl<|SameQ.mk ⟨rfl,?_⟩
  refine SameQ.mk ⟨rfl,?_⟩;refine SetKids.lit rfl<|SameQ.mk ⟨rfl,?_⟩
  cases h;exact (by rfl)
 refine FrzQ.d (V.sl false (1:Nat) (List.map (slr false (1:Nat) Ae) q15_8)) (by first | (simp only [slr];done) | exact (Ak _).trans (Eq.trans (b:=V.fz (V.sl true (1:Nat) (List.map (slr true (1:Nat) Ae) q15_8))) rfl (Ac _ _ _)) | (simp [Ak,V.fz,Ab,Ac,slr];done) | (simp [Ak,V.fz,fzL,Ab,slr];done))<|Cells.lit rfl rfl<|Cells.lit rfl rfl<|Cells.lit rfl rfl<|SameQ.mk ⟨rfl,?_⟩
 refine Cells.lit rfl rfl<|SameQ.mk ⟨rfl,?_⟩
 refine SameQ.mk ⟨rfl,?_⟩;refine SetKids.lit rfl<|Cells.lit rfl rfl<|SameQ.mk ⟨rfl,?_⟩
 refine SameQ.mk ⟨rfl,?_⟩;refine SetKids.lit rfl<|SameQ.mk ⟨rfl,?_⟩
 cases h;exact (by rfl)
end Go.Proofs.Ytaalgpkajkogkaa.Ax
