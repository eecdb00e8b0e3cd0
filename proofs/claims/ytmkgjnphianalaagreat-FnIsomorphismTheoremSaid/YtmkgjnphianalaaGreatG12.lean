/-
 What the functions compute, as functions on plain data, and that the program does compute it; written by program.
-/
import Derived.Test.YtmkgjnphianalaaGreatCode
import Derived.Test.YtmkgjnphianalaaGreatG1
import Derived.Test.YtmkgjnphianalaaGreatG2
import Derived.Test.YtmkgjnphianalaaGreatG3
import Derived.Test.YtmkgjnphianalaaGreatG4
import Derived.Test.YtmkgjnphianalaaGreatG5
import Derived.Test.YtmkgjnphianalaaGreatG6
import Derived.Test.YtmkgjnphianalaaGreatG8
import Derived.Test.YtmkgjnphianalaaGreatG9
import Derived.Test.YtmkgjnphianalaaGreatG11
namespace Go.Proofs.YtmkgjnphianalaaGreat.Ax
open Go
set_option maxRecDepth 100000
set_option maxHeartbeats 4000000
noncomputable def Cr (a0:SAlgebra) (sub0:(List Int)) (p0:(List Int)):Option ((List Int)×Bool):=
 (Dn (a0) (p0)).bind λr1=>
 if (r1)=true then
 if (↑sub0.length:Int)=(0:Int) then
 some (Aw Int,false)
 else
 (Hq (a0) (sub0)).bind λr4=>
 if (r4)=true then
 (Fq (sub0) (p0)).bind λr6=>
 (Jo (r6)).bind λr7=>
 some (r7,true)
 else
 some (Aw Int,false)
 else
 some (Aw Int,false)
theorem L3 {a0:SAlgebra} {sub0:(List Int)} {p0:(List Int)} {v:((List Int)×Bool)} (h:Cr a0 sub0 p0=some v):Ret Tryz.prog E3 [(Ag false) a0,(slr false 1 Af) sub0,(slr false 1 Af) p0] ((λr=>V.tup [(slr true 1 Af) r.1,V.bool r.2]) v):=by
 refine A4 W1 (Nat.le_of_ble_eq_true rfl) ?_;unfold Cr at h;refine Cells.lit rfl rfl<|CallQ.o V.bool (by rfl) h (λr h=>I3 h) (λr1 h=> ?_)
 refine Br.flip<|Br.ob h (λp2 h=> ?_) (λp2 h=> ?_)
 ·refine Br.no<|Len.map<|Br.no<|Br.no<|Br.oe h (λp3 h=> ?_) (λp3 h=> ?_)
  ·refine Br.yes<|Br.yes<|Br.yes<|Br.yes<|Br.yes<|BslQ.o Af (Aw Int) (by exact λ_=>⟨rfl,rfl⟩) (by first | rfl | (simp only [Aa,V.fz,fzL,V.up,upL,Ab,Ac,Ad,slr,List.cons_append,List.nil_append];done) | simp [Aa,V.fz,fzL,V.up,upL,Ab,Ac,Ad,slr]) ?_
   cases h;exact (by rfl)
  refine Cells.lit rfl rfl<|Br.no<|Br.no<|CallQ.o V.bool (by rfl) h (λr h=>Ui h) (λr4 h=> ?_)
  refine Br.no<|Br.no<|Br.flip<|Br.ob h (λp5 h=> ?_) (λp5 h=> ?_)
  ·refine CallQ.o (slr true 1 Af) (by rfl) h (λr h=>Oq h) (λr6 h=> ?_);refine CallQ.rd (slr true 1 Af) (by first | rfl | simp only [V.fz,Ab,slr] | simp [Aa,V.fz,fzL,V.up,upL,Ab,Ac,Ad,slr]) (λ_=>by simp [V.noFz,Ba]) h (λr h=>Aod h) (λr7 h=> ?_);cases h;exact (by rfl)
  refine BslQ.o Af (Aw Int) (by exact λ_=>⟨rfl,rfl⟩) (by first | rfl | (simp only [Aa,V.fz,fzL,V.up,upL,Ab,Ac,Ad,slr,List.cons_append,List.nil_append];done) | simp [Aa,V.fz,fzL,V.up,upL,Ab,Ac,Ad,slr]) ?_;cases h;exact (by rfl)
 refine Br.yes<|Br.yes<|Br.yes<|Br.yes<|Br.yes<|Br.yes<|Br.yes<|Br.yes<|Br.yes<|BslQ.o Af (Aw Int) (by exact λ_=>⟨rfl,rfl⟩) (by first | rfl | (simp only [Aa,V.fz,fzL,V.up,upL,Ab,Ac,Ad,slr,List.cons_append,List.nil_append];done) | simp [Aa,V.fz,fzL,V.up,upL,Ab,Ac,Ad,slr]) ?_
 cases h;exact (by rfl)
noncomputable def G3 (a0:SAlgebra) (sub0:(List Int)) (p0:(List Int)):Option ((List Int)×Bool):=
 (Dn (a0) (p0)).bind λr1=>
 if (r1)=true then
 (Hq (a0) (sub0)).bind λr3=>
 if (r3)=true then
 (Jm (sub0) (p0)).bind λr5=>
 some (r5,true)
 else
 some (Aw Int,false)
 else
 some (Aw Int,false)
theorem Agv {a0:SAlgebra} {sub0:(List Int)} {p0:(List Int)} {v:((List Int)×Bool)} (h:G3 a0 sub0 p0=some v):Ret Tryz.prog M9 [(Ag false) a0,(slr false 1 Af) sub0,(slr false 1 Af) p0] ((λr=>V.tup [(slr true 1 Af) r.1,V.bool r.2]) v):=by
 refine A4 Af6 (Nat.le_of_ble_eq_true rfl) ?_;unfold G3 at h;refine Cells.lit rfl rfl<|CallQ.o V.bool (by rfl) h (λr h=>I3 h) (λr1 h=> ?_)
 refine Br.flip<|Br.ob h (λp2 h=> ?_) (λp2 h=> ?_)
 ·refine Cells.lit rfl rfl<|Br.no<|Br.no<|CallQ.o V.bool (by rfl) h (λr h=>Ui h) (λr3 h=> ?_)
  refine Br.no<|Br.no<|Br.flip<|Br.ob h (λp4 h=> ?_) (λp4 h=> ?_)
  ·refine CallQ.o (slr true 1 Af) (by rfl) h (λr h=>Aok h) (λr5 h=> ?_);cases h;exact (by rfl)
  refine BslQ.o Af (Aw Int) (by exact λ_=>⟨rfl,rfl⟩) (by first | rfl | (simp only [Aa,V.fz,fzL,V.up,upL,Ab,Ac,Ad,slr,List.cons_append,List.nil_append];done) | simp [Aa,V.fz,fzL,V.up,upL,Ab,Ac,Ad,slr]) ?_;cases h;exact (by rfl)
 refine Br.yes<|Br.yes<|Br.yes<|Br.yes<|Br.yes<|BslQ.o Af (Aw Int) (by exact λ_=>⟨rfl,rfl⟩) (by first | rfl | (simp only [Aa,V.fz,fzL,V.up,upL,Ab,Ac,Ad,slr,List.cons_append,List.nil_append];done) | simp [Aa,V.fz,fzL,V.up,upL,Ab,Ac,Ad,slr]) ?_
 cases h;exact (by rfl)
noncomputable def Hi (a0:SAlgebra) (sub0:(List Int)) (p0:(List Int)):Option ((List Int)×Bool):=
 (((Dn (a0) (p0)).bind λr1=>
 if (r1)=true then
 (Hq (a0) (sub0)).bind λr3=>
 if (r3)=true then
 some (.inl ())
 else
 some (.inr ())
 else
 some (.inr ()):Option (Unit ⊕ Unit))).bind λt=>match t with
 | (.inl _)=>((Fy (p0)).bind λr6=>
 (Fq (sub0) (r6)).bind λr7=>
 (Hv (p0)).bind λr8=>
 (M4 (r7) (r8)).bind λr9=>
 some (r9,true))
 | (.inr _)=>(some (Aw Int,false))
theorem Acd {a0:SAlgebra} {sub0:(List Int)} {p0:(List Int)} {v:((List Int)×Bool)} (h:Hi a0 sub0 p0=some v):Ret Tryz.prog M0 [(Ag false) a0,(slr false 1 Af) sub0,(slr false 1 Af) p0] ((λr=>V.tup [(slr true 1 Af) r.1,V.bool r.2]) v):=by
 refine A4 Aoz (Nat.le_of_ble_eq_true rfl) ?_;unfold Hi at h;refine CutQ.o (λt:(Unit ⊕ Unit)=>match t with | (.inl s)=>(Ex.normal,[1,2],[(1,A.val ((slr false 1 Af) (sub0))),(2,A.val ((slr false 1 Af) (p0)))]) | (.inr s)=>(Ex.ret,[7,6],[(7,A.val (V.bool (false))),(6,A.val ((slr true 1 Af) (Aw Int)))])) h ?_ ?_
 ·intro t h;refine Cells.lit rfl rfl<|CallQ.o V.bool (by rfl) h (λr h=>I3 h) (λr1 h=> ?_)
  refine Br.flip<|Br.ob h (λp2 h=> ?_) (λp2 h=> ?_)
  ·refine Cells.lit rfl rfl<|Br.no<|Br.no<|CallQ.o V.bool (by rfl) h (λr h=>Ui h) (λr3 h=> ?_)
   refine Br.no<|Br.no<|Br.flip<|Br.ob h (λp4 h=> ?_) (λp4 h=> ?_)
   ·cases h;exact ⟨rfl,rfl⟩
   refine BslQ.o Af (Aw Int) (by exact λ_=>⟨rfl,rfl⟩) (by first | rfl | (simp only [Aa,V.fz,fzL,V.up,upL,Ab,Ac,Ad,slr,List.cons_append,List.nil_append];done) | simp [Aa,V.fz,fzL,V.up,upL,Ab,Ac,Ad,slr]) ?_;cases h;exact ⟨rfl,rfl⟩
  refine Br.yes<|Br.yes<|Br.yes<|Br.yes<|Br.yes<|BslQ.o Af (Aw Int) (by exact λ_=>⟨rfl,rfl⟩) (by first | rfl | (simp only [Aa,V.fz,fzL,V.up,upL,Ab,Ac,Ad,slr,List.cons_append,List.nil_append];done) | simp [Aa,V.fz,fzL,V.up,upL,Ab,Ac,Ad,slr]) ?_
  cases h;exact ⟨rfl,rfl⟩
 rintro (⟨⟩ | ⟨⟩) h
 ·try dsimp only at h
  refine CallQ.o (slr true 1 Af) (by rfl) h (λr h=>Xh h) (λr6 h=> ?_);refine CallQ.rd (slr true 1 Af) (by first | rfl | simp only [V.fz,V.up,Ab,slr] | simp [Aa,V.fz,fzL,V.up,upL,Ab,Ac,Ad,slr]) (λ_=>by simp [V.noFz,Ba]) h (λr h=>Oq h) (λr7 h=> ?_);refine CallQ.o Af (by rfl) h (λr h=>Ai5 h) (λr8 h=> ?_);refine CallQ.rd (slr true 1 Af) (by first | rfl | simp only [V.fz,Ab,slr] | simp [Aa,V.fz,fzL,V.up,upL,Ab,Ac,Ad,slr]) (λ_=>by simp [V.noFz,Ba]) h (λr h=>Aox h) (λr9 h=> ?_);cases h;exact (by rfl)
 try dsimp only at h
 cases h;exact (by rfl)
noncomputable def C2 (a0:SAlgebra) (sub0:(List Int)):Option (SAlgebra×Bool):=
 (C0 (a0)).bind λr1=>
 if (r1)=true then
 if (↑sub0.length:Int)=(0:Int) then
 some ({ Size:=(0:Int),Ops:=Aw SOp },false)
 else
 (Hq (a0) (sub0)).bind λr4=>
 if (r4)=true then
 (Hr (a0) (sub0)).bind λr6=>
 some (r6,true)
 else
 some ({ Size:=(0:Int),Ops:=Aw SOp },false)
 else
 some ({ Size:=(0:Int),Ops:=Aw SOp },false)
theorem L6 {a0:SAlgebra} {sub0:(List Int)} {v:(SAlgebra×Bool)} (h:C2 a0 sub0=some v):Ret Tryz.prog Gf [(Ag false) a0,(slr false 1 Af) sub0] ((λr=>V.tup [(Ag true) r.1,V.bool r.2]) v):=by
 refine A4 Aez (Nat.le_of_ble_eq_true rfl) ?_;unfold C2 at h;refine Cells.lit rfl rfl<|CallQ.o V.bool (by rfl) h (λr h=>Gn h) (λr1 h=> ?_)
 refine Br.flip<|Br.ob h (λp2 h=> ?_) (λp2 h=> ?_)
 ·refine Br.no<|Len.map<|Br.no<|Br.no<|Br.oe h (λp3 h=> ?_) (λp3 h=> ?_)
  ·refine Br.yes<|Br.yes<|Br.yes<|Br.yes<|Br.yes<|SetKids.lit rfl ?_
   cases h;exact (by rfl)
  refine Cells.lit rfl rfl<|Br.no<|Br.no<|CallQ.o V.bool (by rfl) h (λr h=>Ui h) (λr4 h=> ?_)
  refine Br.no<|Br.no<|Br.flip<|Br.ob h (λp5 h=> ?_) (λp5 h=> ?_)
  ·refine Cells.lit rfl rfl<|CallQ.o (Ag true) (by rfl) h (λr h=>Ajx h) (λr6 h=> ?_)
   refine SetKids.lit rfl ?_;cases h;exact (by rfl)
  refine SetKids.lit rfl ?_;cases h;exact (by rfl)
 refine Br.yes<|Br.yes<|Br.yes<|Br.yes<|Br.yes<|Br.yes<|Br.yes<|Br.yes<|Br.yes<|SetKids.lit rfl ?_
 cases h;exact (by rfl)
noncomputable def B4 (a0:SAlgebra) (p0:(List Int)):Option (SAlgebra×Bool):=
 (Dn (a0) (p0)).bind λr1=>
 if (r1)=true then
 (Js (a0) (p0)).bind λr3=>
 some (r3,true)
 else
 some ({ Size:=(0:Int),Ops:=Aw SOp },false)
theorem Jc {a0:SAlgebra} {p0:(List Int)} {v:(SAlgebra×Bool)} (h:B4 a0 p0=some v):Ret Tryz.prog Er [(Ag false) a0,(slr false 1 Af) p0] ((λr=>V.tup [(Ag true) r.1,V.bool r.2]) v):=by
 refine A4 Aaw (Nat.le_of_ble_eq_true rfl) ?_;unfold B4 at h;refine Cells.lit rfl rfl<|CallQ.o V.bool (by rfl) h (λr h=>I3 h) (λr1 h=> ?_)
 refine Br.flip<|Br.ob h (λp2 h=> ?_) (λp2 h=> ?_)
 ·refine Cells.lit rfl rfl<|CallQ.o (Ag true) (by rfl) h (λr h=>Anj h) (λr3 h=> ?_)
  refine SetKids.lit rfl ?_;cases h;exact (by rfl)
 refine SetKids.lit rfl ?_;cases h;exact (by rfl)
noncomputable def Gy (a0:SAlgebra) (p0:(List Int)):Option Bool:=
 (H5 (a0)).bind λr1=>
 if (r1)=true then
 (R6 (a0) (p0)).bind λr3=>
 some r3
 else
 some false
theorem Wk {a0:SAlgebra} {p0:(List Int)} {v:Bool} (h:Gy a0 p0=some v):Ret Tryz.prog Lo [(Ag false) a0,(slr false 1 Af) p0] (V.bool v):=by
 refine A4 Aso (Nat.le_of_ble_eq_true rfl) ?_;unfold Gy at h;refine Cells.lit rfl rfl<|CallQ.o V.bool (by rfl) h (λr h=>X3 h) (λr1 h=> ?_)
 refine Br.ob h (λp2 h=> ?_) (λp2 h=> ?_)
 ·refine Cells.lit rfl rfl<|Br.yes<|Br.yes<|CallQ.o V.bool (by rfl) h (λr h=>A10 h) (λr3 h=> ?_)
  refine Br.yes ?_;cases h;exact (by rfl)
 refine Br.no<|Br.no<|Br.no ?_
 cases h;exact (by rfl)
noncomputable def Uk (a0:SAlgebra) (b0:SAlgebra):Option Bool:=
 (M1 (a0) (b0)).bind λr1=>
 if (r1.snd)=true then
 some r1.fst
 else
 some false
theorem Awo {a0:SAlgebra} {b0:SAlgebra} {v:Bool} (h:Uk a0 b0=some v):Ret Tryz.prog Abl [(Ag false) a0,(Ag false) b0] (V.bool v):=by
 refine A4 Awa (Nat.le_of_ble_eq_true rfl) ?_;unfold Uk at h;refine Cells.lit rfl rfl<|Cells.lit rfl rfl<|CallQ.o (λr=>V.tup [V.bool r.1,V.bool r.2]) (by rfl) h (λr h=>Am4 h) (λr1 h=> ?_)
 refine Br.ob h (λp2 h=> ?_) (λp2 h=> ?_)
 ·refine Br.yes ?_;cases h;exact (by rfl)
 refine Br.no ?_;cases h;exact (by rfl)
noncomputable def Fl (a0:SAlgebra) (_b0:SAlgebra) (_embed0:Bool) (_found0:List (List Int)):(Int×(List Int))->Option ((Int×(List Int)) ⊕ (List Int)):=λ(x23,x10)=>
 if x23<(↑a0.Size.toNat:Int) then
 ask ((0:Int)<=x23/\x23<(↑x10.length:Int)) <|
 ask (InI (x23+(1:Int))) <|
 some (.inl (x23+(1:Int),x10.set x23.toNat (-1:Int)))
 else
 some (.inr x10)
def Lc (gv:Value) (a0:SAlgebra) (b0:SAlgebra) (embed0:Bool) (found0:List (List Int)):(Int×(List Int))->St:=λs=>[(23,A.val (Af s.1)),(22,A.val (Af ((↑a0.Size.toNat:Int)))),(10,A.val ((slr true 1 Af) s.2)),(9,A.val ((rP true (Bj gv)) ({ a:=a0,b:=b0,embed:=embed0,tries:=(0:Int),found:=Sum.inl found0 }))),(44,A.val (V.raw gv))]
def Sn (gv:Value) (a0:SAlgebra) (b0:SAlgebra) (embed0:Bool) (found0:List (List Int)):(List Int)->Tgt
 | s=>((Ex.exit 0),[10,9,44],[(10,A.val ((slr true 1 Af) s)),(9,A.val ((rP true (Bj gv)) ({ a:=a0,b:=b0,embed:=embed0,tries:=(0:Int),found:=Sum.inl found0 }))),(44,A.val (V.raw gv))])
theorem Aeh {gv:Value} {a0:SAlgebra} {b0:SAlgebra} {embed0:Bool} {found0:List (List Int)} (s:(Int×(List Int))) (o:(Int×(List Int)) ⊕ (List Int)) (h:Fl a0 b0 embed0 found0 s=some o):vc Tryz.prog Lm (Cd [23,22,10,9,44] (Lc gv a0 b0 embed0 found0) (Sn gv a0 b0 embed0 found0) o) (Lc gv a0 b0 embed0 found0 s):=by
 obtain ⟨x23,x10⟩:=s;unfold Fl at h;try dsimp only at h
 refine Br.od h (λp2 h=> ?_) (λp2 h=> ?_)
 ·refine Len.map<|Ask.o h λp3 h=>SetKids.one (λ_=>⟨rfl,rfl⟩) ((-1:Int)) (by rfl) (by first | omega | (simp [Ap] at * <;> omega))<|Ask.o h λp4 h=> ?_
  cases h;exact ⟨rfl,rfl⟩
 cases h;exact ⟨rfl,rfl⟩
noncomputable def Es (a0:SAlgebra) (_b0:SAlgebra) (_embed0:Bool) (_found0:Unit×Option (List Int)):(Int×(List Int))->Option ((Int×(List Int)) ⊕ (List Int)):=λ(x23,x10)=>
 if x23<(↑a0.Size.toNat:Int) then
 ask ((0:Int)<=x23/\x23<(↑x10.length:Int)) <|
 ask (InI (x23+(1:Int))) <|
 some (.inl (x23+(1:Int),x10.set x23.toNat (-1:Int)))
 else
 some (.inr x10)
def I4 (gv:Value) (a0:SAlgebra) (b0:SAlgebra) (embed0:Bool) (found0:Unit×Option (List Int)):(Int×(List Int))->St:=λs=>[(23,A.val (Af s.1)),(22,A.val (Af ((↑a0.Size.toNat:Int)))),(10,A.val ((slr true 1 Af) s.2)),(9,A.val ((rP true (Bj gv)) ({ a:=a0,b:=b0,embed:=embed0,tries:=(0:Int),found:=Sum.inr ((),found0.snd) }))),(44,A.val (V.raw gv))]
def Pk (gv:Value) (a0:SAlgebra) (b0:SAlgebra) (embed0:Bool) (found0:Unit×Option (List Int)):(List Int)->Tgt
 | s=>((Ex.exit 0),[10,9,44],[(10,A.val ((slr true 1 Af) s)),(9,A.val ((rP true (Bj gv)) ({ a:=a0,b:=b0,embed:=embed0,tries:=(0:Int),found:=Sum.inr ((),found0.snd) }))),(44,A.val (V.raw gv))])
theorem Aay {gv:Value} {a0:SAlgebra} {b0:SAlgebra} {embed0:Bool} {found0:Unit×Option (List Int)} (s:(Int×(List Int))) (o:(Int×(List Int)) ⊕ (List Int)) (h:Es a0 b0 embed0 found0 s=some o):vc Tryz.prog Lm (Cd [23,22,10,9,44] (I4 gv a0 b0 embed0 found0) (Pk gv a0 b0 embed0 found0) o) (I4 gv a0 b0 embed0 found0 s):=by
 obtain ⟨x23,x10⟩:=s;unfold Es at h;try dsimp only at h
 refine Br.od h (λp12 h=> ?_) (λp12 h=> ?_)
 ·refine Len.map<|Ask.o h λp13 h=>SetKids.one (λ_=>⟨rfl,rfl⟩) ((-1:Int)) (by rfl) (by first | omega | (simp [Ap] at * <;> omega))<|Ask.o h λp14 h=> ?_
  cases h;exact ⟨rfl,rfl⟩
 cases h;exact ⟨rfl,rfl⟩
noncomputable def F2 (a0:SAlgebra) (b0:SAlgebra) (embed0:Bool) (found0:(((List (List Int))) ⊕ ((Unit)×(Option (List Int))))):Option (Bool×(((List (List Int))) ⊕ ((Unit)×(Option (List Int))))):=
 match found0 with
 | (.inl found0)=>(ask ((0:Int)<=a0.Size/\a0.Size<=(↑LIM:Int)) <|
 (Ak (Fl a0 b0 embed0 found0) ((0:Int),List.replicate a0.Size.toNat (0:Int))).bind λq5_10=>
 (Bq ({ a:=a0,b:=b0,embed:=embed0,tries:=(0:Int),found:=Sum.inl found0 }) (q5_10)).bind λ(r6,u7)=>
 if (r6)=true then
 (Azw λn=>A6 n ({ a:=a0,b:=b0,embed:=embed0,tries:=(0:Int),found:=Sum.inl found0 }) (u7)).bind λ(_r9,u10)=>
 some (decide (u10.tries<=(5000:Int)),u10.found)
 else
 some (decide ((0:Int)<=(5000:Int)),Sum.inl found0))
 | (.inr found0)=>(ask ((0:Int)<=a0.Size/\a0.Size<=(↑LIM:Int)) <|
 (Ak (Es a0 b0 embed0 found0) ((0:Int),List.replicate a0.Size.toNat (0:Int))).bind λq15_10=>
 (Bq ({ a:=a0,b:=b0,embed:=embed0,tries:=(0:Int),found:=Sum.inr ((),found0.snd) }) (q15_10)).bind λ(r16,u17)=>
 if (r16)=true then
 (Azw λn=>A6 n ({ a:=a0,b:=b0,embed:=embed0,tries:=(0:Int),found:=Sum.inr ((),found0.snd) }) (u17)).bind λ(_r19,u20)=>
 some (decide (u20.tries<=(5000:Int)),u20.found)
 else
 some (decide ((0:Int)<=(5000:Int)),Sum.inr ((),found0.snd)))
theorem Ajz {gv:Value} {a0:SAlgebra} {b0:SAlgebra} {embed0:Bool} {found0:(((List (List Int))) ⊕ ((Unit)×(Option (List Int))))} {v:(Bool×(((List (List Int))) ⊕ ((Unit)×(Option (List Int)))))} (h:F2 a0 b0 embed0 found0=some v):J7 Tryz.prog Ov [(Ag false) a0,(Ag false) b0,V.bool embed0,(Cg gv) found0] (V.bool v.1) 3 ((Cg gv) v.2):=by
 refine Ij Aj6 (Nat.le_of_ble_eq_true rfl) ?_;unfold F2 at h;rcases found0 with found0 | found0
 ·try dsimp only at h
  refine Cells.lit rfl rfl<|Cells.lit rfl rfl<|Cells.lit rfl rfl<|Ask.o h λp1 h=>MkQ.o Af ((0:Int)) rfl<|Len.mrep<|LoopQ.o [23,22,10,9,44] (Lc gv a0 b0 embed0 found0) (Sn gv a0 b0 embed0 found0) h (λs o h=>Aeh s o h) (by rfl) (λ_=>rfl) ?_
  rintro q5_10 h;try dsimp only at h
  refine CallQ.io V.bool (slr true 1 Af) (by rfl) rfl (λ_=>rfl) (λ_=>⟨by first | rfl | simp [Db,V.noFz,Ba],rfl⟩) rfl h (λr h=>Kc h) (λr6 u7 h=> ?_);refine Br.ob h (λp8 h=> ?_) (λp8 h=> ?_)
  ·refine CallQ.io V.bool (rP true (Bj gv)) (by first | rfl | simp only [V.fz,Ab,slr] | simp [Aa,V.fz,fzL,V.up,upL,Ab,Ac,Ad,slr]) rfl (λ_=>rfl) (λ_=>⟨rfl,rfl⟩) rfl h (λr h=>N9 h) (λr9 u10 h=> ?_);refine Cells.lit rfl rfl<|Kid.lit rfl rfl<|TokE.mk ⟨_,_,rfl,?_⟩
   refine Kid.lit rfl rfl<|SetKids.lit rfl ?_
   cases h;exact ⟨(by rfl),(by rfl)⟩
  refine Cells.lit rfl rfl<|Kid.lit rfl rfl<|TokE.mk ⟨_,_,rfl,?_⟩
  refine Kid.lit rfl rfl<|SetKids.lit rfl ?_
  cases h;exact ⟨(by rfl),(by rfl)⟩
 try dsimp only at h
 refine Cells.lit rfl rfl<|Cells.lit rfl rfl<|Cells.lit rfl rfl<|Ask.o h λp11 h=>MkQ.o Af ((0:Int)) rfl<|Len.mrep<|LoopQ.o [23,22,10,9,44] (I4 gv a0 b0 embed0 found0) (Pk gv a0 b0 embed0 found0) h (λs o h=>Aay s o h) (by rfl) (λ_=>rfl) ?_
 rintro q15_10 h;try dsimp only at h
 refine CallQ.io V.bool (slr true 1 Af) (by rfl) rfl (λ_=>rfl) (λ_=>⟨by first | rfl | simp [Db,V.noFz,Ba],rfl⟩) rfl h (λr h=>Kc h) (λr16 u17 h=> ?_);refine Br.ob h (λp18 h=> ?_) (λp18 h=> ?_)
 ·refine CallQ.io V.bool (rP true (Bj gv)) (by first | rfl | simp only [V.fz,Ab,slr] | simp [Aa,V.fz,fzL,V.up,upL,Ab,Ac,Ad,slr]) rfl (λ_=>rfl) (λ_=>⟨rfl,rfl⟩) rfl h (λr h=>N9 h) (λr19 u20 h=> ?_);refine Cells.lit rfl rfl<|Kid.lit rfl rfl<|TokE.mk ⟨_,_,rfl,?_⟩
  refine Kid.lit rfl rfl<|SetKids.lit rfl ?_
  cases h;exact ⟨(by rfl),(by rfl)⟩
 refine Cells.lit rfl rfl<|Kid.lit rfl rfl<|TokE.mk ⟨_,_,rfl,?_⟩
 refine Kid.lit rfl rfl<|SetKids.lit rfl ?_
 cases h;exact ⟨(by rfl),(by rfl)⟩
noncomputable def Jf (a0:SAlgebra):(Int×(List (List Int)))->Option ((Int×(List (List Int))) ⊕ (List (List Int))):=λ(x4,x3)=>
 ask ((0:Int)<=a0.Size) <|
 if x4<A5m (1:Int) a0.Size then
 (Mx (x4)).bind λr3=>
 (I2 (a0) (r3)).bind λr4=>
 if (r4)=true then
 (My (x3) (r3)).bind λr6=>
 ask (InI (x4+(1:Int))) <|
 some (.inl (x4+(1:Int),r6))
 else
 ask (InI (x4+(1:Int))) <|
 some (.inl (x4+(1:Int),x3))
 else
 some (.inr x3)
def S7 (a0:SAlgebra):(Int×(List (List Int)))->St:=λs=>[(4,A.val (Af s.1)),(3,A.val ((slr true 1 (slr false 1 Af)) s.2)),(1,A.val ((rP true (Ag false)) (a0)))]
def Abq (_a0:SAlgebra):(List (List Int))->Tgt
 | s=>((Ex.exit 0),[3],[(3,A.val ((slr true 1 (slr false 1 Af)) s))])
theorem Aoh {a0:SAlgebra} (s:(Int×(List (List Int)))) (o:(Int×(List (List Int))) ⊕ (List (List Int))) (h:Jf a0 s=some o):vc Tryz.prog Ach (Cd [4,3,1] (S7 a0) (Abq a0) o) (S7 a0 s):=by
 obtain ⟨x4,x3⟩:=s;unfold Jf at h;try dsimp only at h
 refine Cells.lit rfl rfl<|Ask.o h λp1 h=>Br.od h (λp2 h=> ?_) (λp2 h=> ?_)
 ·refine CallQ.o (slr true 1 Af) (by rfl) h (λr h=>Asq h) (λr3 h=> ?_);refine Cells.lit rfl rfl<|CallQ.rd V.bool (by first | rfl | simp only [V.fz,fzL,Ab,slr] | simp [Aa,V.fz,fzL,V.up,upL,Ab,Ac,Ad,slr]) (λ_=>rfl) h (λr h=>Xu h) (λr4 h=> ?_)
  refine Br.ob h (λp5 h=> ?_) (λp5 h=> ?_)
  ·refine FrzQ.d (V.sl false (1:Nat) (List.map (slr false (1:Nat) Af) x3)) (by first | (simp only [slr];done) | (simp [Av,V.fz,Ab,slr];done) | (simp [Av,V.fz,fzL,Ab,slr];done))<|FrzQ.d (V.sl false (1:Nat) (List.map Af r3)) (by first | (simp only [slr];done) | (simp [Av,V.fz,Ab,slr];done) | (simp [Av,V.fz,fzL,Ab,slr];done))<|CallQ.o (slr true 1 (slr false 1 Af)) (by rfl) h (λr h=>Atm h) (λr6 h=> ?_)
   refine Ask.o h λp7 h=> ?_
   cases h;exact ⟨rfl,rfl⟩
  refine Ask.o h λp8 h=> ?_
  cases h;exact ⟨rfl,rfl⟩
 cases h;exact ⟨rfl,rfl⟩
noncomputable def Ph (a0:SAlgebra):Option (List (List Int)):=
 (Ak (Jf a0) ((0:Int),Aw (List Int))).bind λq9_3=>
 some q9_3
theorem Axb {a0:SAlgebra} {v:(List (List Int))} (h:Ph a0=some v):Ret Tryz.prog Aa7 [(Ag false) a0] ((slr true 1 (slr false 1 Af)) v):=by
 refine A4 Aym (Nat.le_of_ble_eq_true rfl) ?_;unfold Ph at h;refine BslQ.o (slr true 1 Af) (Aw (List Int)) (by exact λ_=>⟨rfl,rfl⟩) (by first | rfl | (simp only [Aa,V.fz,fzL,V.up,upL,Ab,Ac,Ad,slr,List.cons_append,List.nil_append];done) | simp [Aa,V.fz,fzL,V.up,upL,Ab,Ac,Ad,slr])<|LoopQ.o [4,3,1] (S7 a0) (Abq a0) h (λs o h=>Aoh s o h) (by rfl) (λ_=>rfl) ?_
 rintro q9_3 h;try dsimp only at h
 cases h;exact (by rfl)
noncomputable def G9 (a0:SAlgebra) (x0:Int) (y0:Int):Option (List Int):=
 (Dv (a0.Size)).bind λr1=>
 (Fv (r1) (x0) (y0)).bind λr2=>
 (Ku (a0) (r2)).bind λr3=>
 some r3
theorem Agx {a0:SAlgebra} {x0:Int} {y0:Int} {v:(List Int)} (h:G9 a0 x0 y0=some v):Ret Tryz.prog Nv [(Ag false) a0,Af x0,Af y0] ((slr false 1 Af) v):=by
 refine A4 Agt (Nat.le_of_ble_eq_true rfl) ?_;unfold G9 at h;refine Cells.lit rfl rfl<|Cells.lit rfl rfl<|CallP.o (slr false 1 Af) (by rfl) h (λr h=>Ret.frz (Km h) (by first | rfl | simp only [V.fz,Ab,slr] | simp [Aa,V.fz,fzL,V.up,upL,Ab,Ac,Ad,slr])) (λr1 h=> ?_)
 refine CallP.o (slr false 1 Af) (by rfl) h (λr h=>Ret.frz (Pm h) (by first | rfl | simp only [V.fz,Ab,slr] | simp [Aa,V.fz,fzL,V.up,upL,Ab,Ac,Ad,slr])) (λr2 h=> ?_);refine CallQ.o (slr false 1 Af) (by rfl) h (λr h=>Aq1 h) (λr3 h=> ?_);cases h;exact (by rfl)
end Go.Proofs.YtmkgjnphianalaaGreat.Ax
