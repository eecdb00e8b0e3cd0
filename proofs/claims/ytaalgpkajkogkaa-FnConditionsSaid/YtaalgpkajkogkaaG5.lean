/-
 What the functions compute, as functions on plain data, and that the program does compute it; written by program.
-/
import Derived.Test.YtaalgpkajkogkaaCode
import Derived.Test.YtaalgpkajkogkaaG1
import Derived.Test.YtaalgpkajkogkaaG2
import Derived.Test.YtaalgpkajkogkaaG3
namespace Go.Proofs.Ytaalgpkajkogkaa.Ax
open Go
set_option maxRecDepth 100000
set_option maxHeartbeats 4000000
noncomputable def D8 (_a0:SAlgebra) (_first0:List (List Int)) (rows0:List (List Int)):(Int×(List (ByteArray×Bool)))->Option ((Int×(List (ByteArray×Bool))) ⊕ (List (ByteArray×Bool))):=λ(x21,x7)=>
 if x21<(↑rows0.length:Int) then
 ask ((0:Int)<=x21/\x21<(↑rows0.length:Int)) <|
 (Ij (nth rows0 x21.toNat)).bind λr3=>
 ask (InI (x21+(1:Int))) <|
 some (.inl (x21+(1:Int),Lv x7 r3 true))
 else
 some (.inr x7)
def Jp (a0:SAlgebra) (first0:List (List Int)) (rows0:List (List Int)):(Int×(List (ByteArray×Bool)))->St:=λs=>[(21,A.val (Ae s.1)),(20,A.val (Ae ((↑rows0.length:Int)))),(19,A.val (slr false 1 (slr false 1 Ae) rows0)),(7,A.val (rMp true Lf.bool s.2)),(3,A.val (rP true (Aj false) a0)),(1,A.val (slr false 1 (slr false 1 Ae) first0)),(2,A.val (slr false 1 (slr false 1 Ae) rows0))]
def O4 (a0:SAlgebra) (first0:List (List Int)) (rows0:List (List Int)):(List (ByteArray×Bool))->Tgt
 | s=>((Ex.exit 0),[7,3,1,2],[(7,A.val (rMp true Lf.bool s)),(3,A.val (rP true (Aj false) a0)),(1,A.val (slr false 1 (slr false 1 Ae) first0)),(2,A.val (slr false 1 (slr false 1 Ae) rows0))])
theorem Aaq {a0} {first0} {rows0} (s) o (h:D8 a0 first0 rows0 s=some o):vc Try.prog O9 (Ch [21,20,19,7,3,1,2] (Jp a0 first0 rows0) (O4 a0 first0 rows0) o) (Jp a0 first0 rows0 s):=by
 obtain ⟨x21,x7⟩:=s;unfold D8 at h;try dsimp only at h
 refine Br.od h (λp1 h=> ?_) (λp1 h=> ?_)
 ·refine Len.map<|Ask.o h λp2 h=>Elem.o (by first | omega | (simp [Au] at * <;> omega))<|CallQ.o V.str (by rfl) h (λr h=>T7 h) (λr3 h=> ?_)
  refine MsQ.o Lf.bool x7 true (by rfl) rfl<|Ask.o h λp4 h=> ?_
  cases h;exact ⟨rfl,rfl⟩
 cases h;exact ⟨rfl,rfl⟩
noncomputable def C8 (_a0:SAlgebra) (first0:List (List Int)) (_rows0:List (List Int)) (q5_7:List (ByteArray×Bool)):Int->Option (Int ⊕ (Unit ⊕ Unit)):=λx31=>
 if x31<(↑first0.length:Int) then
 ask ((0:Int)<=x31/\x31<(↑first0.length:Int)) <|
 (Ij (nth first0 x31.toNat)).bind λr8=>
 if ((Gs q5_7 r8).getD false)=true then
 ask (InI (x31+(1:Int))) <|
 some (.inl (x31+(1:Int)))
 else
 some (.inr (.inl ()))
 else
 some (.inr (.inr ()))
def J1 (a0:SAlgebra) (first0:List (List Int)) (rows0:List (List Int)) (q5_7:List (ByteArray×Bool)):Int->St:=λs=>[(31,A.val (Ae s)),(30,A.val (Ae ((↑first0.length:Int)))),(29,A.val (slr false 1 (slr false 1 Ae) first0)),(7,A.val (rMp true Lf.bool q5_7)),(3,A.val (rP true (Aj false) a0)),(1,A.val (slr false 1 (slr false 1 Ae) first0)),(2,A.val (slr false 1 (slr false 1 Ae) rows0))]
def Py (a0:SAlgebra) (first0:List (List Int)) (rows0:List (List Int)) (q5_7:List (ByteArray×Bool)):(Unit ⊕ Unit)->Tgt
 | (.inl _s)=>(Ex.ret,[6],[(6,A.val (V.bool false))])
 | (.inr _s)=>((Ex.exit 2),[7,3,1,2],[(7,A.val (rMp true Lf.bool q5_7)),(3,A.val (rP true (Aj false) a0)),(1,A.val (slr false 1 (slr false 1 Ae) first0)),(2,A.val (slr false 1 (slr false 1 Ae) rows0))])
theorem Zo {a0} {first0} {rows0} {q5_7} (x31) o (h:C8 a0 first0 rows0 q5_7 x31=some o):vc Try.prog Pw (Ch [31,30,29,7,3,1,2] (J1 a0 first0 rows0 q5_7) (Py a0 first0 rows0 q5_7) o) (J1 a0 first0 rows0 q5_7 x31):=by
 unfold C8 at h;try dsimp only at h
 refine Br.od h (λp6 h=> ?_) (λp6 h=> ?_)
 ·refine Len.map<|Ask.o h λp7 h=>Elem.o (by first | omega | (simp [Au] at * <;> omega))<|CallQ.o V.str (by rfl) h (λr h=>T7 h) (λr8 h=> ?_)
  refine LkQ.one Lf.bool V.bool q5_7 (false) (by rfl) rfl (λ_=>rfl)<|Br.flip<|Br.ob h (λp9 h=> ?_) (λp9 h=> ?_)
  ·refine Ask.o h λp10 h=> ?_
   cases h;exact ⟨rfl,rfl⟩
  cases h;exact ⟨rfl,rfl⟩
 cases h;exact ⟨rfl,rfl⟩
noncomputable def De (_a0:SAlgebra) (_first0:List (List Int)) (rows0:List (List Int)) (_q5_7:List (ByteArray×Bool)) (_x44:Int) (_x15:Int) (r17:List Int):(Int×(List (List Int)))->Option ((Int×(List (List Int))) ⊕ (List (List Int))):=λ(x67,x14')=>
 if x67<(↑r17.length:Int) then
 ask ((0:Int)<=x67/\x67<(↑r17.length:Int)) <|
 ask ((0:Int)<=nth r17 x67.toNat/\nth r17 x67.toNat<(↑rows0.length:Int)) <|
 ask ((0:Int)<=x67/\x67<(↑x14'.length:Int)) <|
 ask (InI (x67+(1:Int))) <|
 some (.inl (x67+(1:Int),x14'.set x67.toNat (nth rows0 (nth r17 x67.toNat).toNat)))
 else
 some (.inr x14')
def J0 (a0:SAlgebra) (first0:List (List Int)) (rows0:List (List Int)) (q5_7:List (ByteArray×Bool)) (x44:Int) (x15:Int) (r17:List Int):(Int×(List (List Int)))->St:=λs=>[(67,A.val (Ae s.1)),(66,A.val (Ae ((↑r17.length:Int)))),(65,A.val (slr true 1 Ae r17)),(14,A.val (slr true 1 (slr false 1 Ae) s.2)),(15,A.val (Ae x15)),(13,A.val ((rP true (Bd false)) (nth a0.Ops x44.toNat))),(44,A.val (Ae x44)),(43,A.val (Ae ((↑a0.Ops.length:Int)))),(42,A.val (slr false 2 (Bd false) a0.Ops)),(7,A.val (rMp true Lf.bool q5_7)),(3,A.val (rP true (Aj false) a0)),(1,A.val (slr false 1 (slr false 1 Ae) first0)),(2,A.val (slr false 1 (slr false 1 Ae) rows0))]
def Qr (a0:SAlgebra) (first0:List (List Int)) (rows0:List (List Int)) (q5_7:List (ByteArray×Bool)) (x44:Int) (x15:Int) (_r17:List Int):(List (List Int))->Tgt
 | s=>((Ex.exit 8),[14,15,13,44,43,42,7,3,1,2],[(14,A.val (slr true 1 (slr false 1 Ae) s)),(15,A.val (Ae x15)),(13,A.val ((rP true (Bd false)) (nth a0.Ops x44.toNat))),(44,A.val (Ae x44)),(43,A.val (Ae ((↑a0.Ops.length:Int)))),(42,A.val (slr false 2 (Bd false) a0.Ops)),(7,A.val (rMp true Lf.bool q5_7)),(3,A.val (rP true (Aj false) a0)),(1,A.val (slr false 1 (slr false 1 Ae) first0)),(2,A.val (slr false 1 (slr false 1 Ae) rows0))])
theorem Zc {a0} {first0} {rows0} {q5_7} {x44} {x15} {r17} (s) o (h:De a0 first0 rows0 q5_7 x44 x15 r17 s=some o):vc Try.prog Qp (Ch [67,66,65,14,15,13,44,43,42,7,3,1,2] (J0 a0 first0 rows0 q5_7 x44 x15 r17) (Qr a0 first0 rows0 q5_7 x44 x15 r17) o) (J0 a0 first0 rows0 q5_7 x44 x15 r17 s):=by
 obtain ⟨x67,x14'⟩:=s;unfold De at h;try dsimp only at h
 refine Br.od h (λp18 h=> ?_) (λp18 h=> ?_)
 ·refine Len.map<|Ask.o h λp19 h=>Cells.one (λ_=>⟨rfl,rfl⟩) (by first | omega | (simp [Au] at * <;> omega))<|Len.map<|Ask.o h λp20 h=>Elem.o (by first | omega | (simp [Au] at * <;> omega))<|Len.map<|Ask.o h λp21 h=>SetKids.one (λ_=>⟨rfl,rfl⟩) (nth rows0 (nth r17 x67.toNat).toNat) (by rfl) (by first | omega | (simp [Au] at * <;> omega))<|Ask.o h λp22 h=> ?_
  cases h;exact ⟨rfl,rfl⟩
 cases h;exact ⟨rfl,rfl⟩
noncomputable def B9 (a0:SAlgebra) (first0:List (List Int)) (rows0:List (List Int)) (q5_7:List (ByteArray×Bool)) (x44:Int):((List (List Int))×Int)->Option (((List (List Int))×Int) ⊕ (Unit ⊕ Unit)):=λ(x14,x15)=>
 (Ea ((↑rows0.length:Int)) ((nth a0.Ops x44.toNat).Arity)).bind λr15=>
 if x15<r15 then
 (Io (x15) ((nth a0.Ops x44.toNat).Arity) ((↑rows0.length:Int))).bind λr17=>
 (Aq (De a0 first0 rows0 q5_7 x44 x15 r17) ((0:Int),x14)).bind λq23_14=>
 ask ((0:Int)<=(0:Int)/\(0:Int)<(↑first0.length:Int)) <|
 (Dz (a0.Size) (nth a0.Ops x44.toNat) (q23_14) ((↑(nth first0 (Int.toNat (0:Int))).length:Int))).bind λr25=>
 (Ij (r25)).bind λr26=>
 if ((Gs q5_7 r26).getD false)=true then
 ask (InI (x15+(1:Int))) <|
 some (.inl (q23_14,x15+(1:Int)))
 else
 some (.inr (.inl ()))
 else
 some (.inr (.inr ()))
def Ju (a0:SAlgebra) (first0:List (List Int)) (rows0:List (List Int)) (q5_7:List (ByteArray×Bool)) (x44:Int):((List (List Int))×Int)->St:=λs=>[(14,A.val (slr true 1 (slr false 1 Ae) s.1)),(15,A.val (Ae s.2)),(13,A.val ((rP true (Bd false)) (nth a0.Ops x44.toNat))),(44,A.val (Ae x44)),(43,A.val (Ae ((↑a0.Ops.length:Int)))),(42,A.val (slr false 2 (Bd false) a0.Ops)),(7,A.val (rMp true Lf.bool q5_7)),(3,A.val (rP true (Aj false) a0)),(1,A.val (slr false 1 (slr false 1 Ae) first0)),(2,A.val (slr false 1 (slr false 1 Ae) rows0))]
def Qf (a0:SAlgebra) (first0:List (List Int)) (rows0:List (List Int)) (q5_7:List (ByteArray×Bool)) (x44:Int):(Unit ⊕ Unit)->Tgt
 | (.inl _s)=>(Ex.ret,[6],[(6,A.val (V.bool false))])
 | (.inr _s)=>((Ex.exit 6),[44,43,42,7,3,1,2],[(44,A.val (Ae x44)),(43,A.val (Ae ((↑a0.Ops.length:Int)))),(42,A.val (slr false 2 (Bd false) a0.Ops)),(7,A.val (rMp true Lf.bool q5_7)),(3,A.val (rP true (Aj false) a0)),(1,A.val (slr false 1 (slr false 1 Ae) first0)),(2,A.val (slr false 1 (slr false 1 Ae) rows0))])
theorem Zv {a0} {first0} {rows0} {q5_7} {x44} (s) o (h:B9 a0 first0 rows0 q5_7 x44 s=some o):vc Try.prog Pl (Ch [14,15,13,44,43,42,7,3,1,2] (Ju a0 first0 rows0 q5_7 x44) (Qf a0 first0 rows0 q5_7 x44) o) (Ju a0 first0 rows0 q5_7 x44 s):=by
 obtain ⟨x14,x15⟩:=s;unfold B9 at h;try dsimp only at h
 refine Len.map<|Cells.lit rfl rfl<|CallQ.o Ae (by rfl) h (λr h=>Ue h) (λr15 h=> ?_)
 refine Br.od h (λp16 h=> ?_) (λp16 h=> ?_)
 ·refine Cells.lit rfl rfl<|Len.map<|CallQ.o (slr true 1 Ae) (by rfl) h (λr h=>Xm h) (λr17 h=> ?_)
  refine Len.map<|LoopQ.o [67,66,65,14,15,13,44,43,42,7,3,1,2] (J0 a0 first0 rows0 q5_7 x44 x15 r17) (Qr a0 first0 rows0 q5_7 x44 x15 r17) h (λs o h=>Zc s o h) (by rfl) (λ_=>rfl) ?_
  rintro q23_14 h;try dsimp only at h
  refine Cells.lit rfl rfl<|Cells.lit rfl rfl<|Len.map<|Ask.o h λp24 h=>Elem.o (by first | omega | (simp [Au] at * <;> omega))<|Len.map<|CallP.rd (slr true 1 Ae) (by first | rfl | simp only [V.fz,fzL,Ab,slr] | simp [Aa,V.fz,fzL,V.up,upL,Ab,Ac,Ad,slr]) (λ_=>by simp [V.noFz,Bb]) h (λr h=>Ll h) (λr25 h=> ?_)
  refine CallP.rd V.str (by first | rfl | simp only [V.fz,Ab,slr] | simp [Aa,V.fz,fzL,V.up,upL,Ab,Ac,Ad,slr]) (λ_=>rfl) h (λr h=>T7 h) (λr26 h=> ?_);refine LkQ.one Lf.bool V.bool q5_7 (false) (by rfl) rfl (λ_=>rfl)<|Br.flip<|Br.ob h (λp27 h=> ?_) (λp27 h=> ?_)
  ·refine Ask.o h λp28 h=> ?_
   cases h;exact ⟨rfl,rfl⟩
  cases h;exact ⟨rfl,rfl⟩
 cases h;exact ⟨rfl,rfl⟩
noncomputable def Dg (a0:SAlgebra) (first0:List (List Int)) (rows0:List (List Int)) (q5_7:List (ByteArray×Bool)):Int->Option (Int ⊕ (Unit ⊕ Unit)):=λx44=>
 if x44<(↑a0.Ops.length:Int) then
 ask ((0:Int)<=x44/\x44<(↑a0.Ops.length:Int)) <|
 ask ((0:Int)<=(nth a0.Ops x44.toNat).Arity/\(nth a0.Ops x44.toNat).Arity<=(↑LIM:Int)) <|
 (Aq (B9 a0 first0 rows0 q5_7 x44) (List.replicate (nth a0.Ops x44.toNat).Arity.toNat (Av Int),(0:Int))).bind λt=>match t with
 | (.inl _)=>(some (.inr (.inl ())))
 | (.inr _)=>(ask (InI (x44+(1:Int))) <|
 some (.inl (x44+(1:Int))))
 else
 some (.inr (.inr ()))
def Jx (a0:SAlgebra) (first0:List (List Int)) (rows0:List (List Int)) (q5_7:List (ByteArray×Bool)):Int->St:=λs=>[(44,A.val (Ae s)),(43,A.val (Ae ((↑a0.Ops.length:Int)))),(42,A.val (slr false 2 (Bd false) a0.Ops)),(7,A.val (rMp true Lf.bool q5_7)),(3,A.val (rP true (Aj false) a0)),(1,A.val (slr false 1 (slr false 1 Ae) first0)),(2,A.val (slr false 1 (slr false 1 Ae) rows0))]
def Qg (_a0:SAlgebra) (_first0:List (List Int)) (_rows0:List (List Int)) (_q5_7:List (ByteArray×Bool)):(Unit ⊕ Unit)->Tgt
 | (.inl _s)=>(Ex.ret,[6],[(6,A.val (V.bool false))])
 | (.inr _s)=>((Ex.exit 4),[],[])
theorem Aal {a0} {first0} {rows0} {q5_7} (x44) o (h:Dg a0 first0 rows0 q5_7 x44=some o):vc Try.prog Qq (Ch [44,43,42,7,3,1,2] (Jx a0 first0 rows0 q5_7) (Qg a0 first0 rows0 q5_7) o) (Jx a0 first0 rows0 q5_7 x44):=by
 unfold Dg at h;try dsimp only at h
 refine Br.od h (λp12 h=> ?_) (λp12 h=> ?_)
 ·refine Len.map<|Ask.o h λp13 h=>Elem.o (by first | omega | (simp [Au] at * <;> omega))<|SetKids.lit rfl<|Cells.lit rfl rfl<|Ask.o h λp14 h=>MkQ.o (slr true 1 Ae) (Av Int) rfl<|FrzQ.d (V.sl true (1:Nat) (List.map (slr false (1:Nat) Ae) (List.replicate (nth a0.Ops x44.toNat).Arity.toNat (Av Int)))) (by first | (simp only [V.fzAt,Im,Ab];done) | exact Eq.trans (b:=V.sl true (1:Nat) (List.map (slr false (1:Nat) Ae) (List.replicate (nth a0.Ops x44.toNat).Arity.toNat (Av Int)))) rfl (by simp only [Ac]))<|LoopQ.o [14,15,13,44,43,42,7,3,1,2] (Ju a0 first0 rows0 q5_7 x44) (Qf a0 first0 rows0 q5_7 x44) h (λs o h=>Zv s o h) (by rfl) (by rintro (_ | _)<;>rfl) ?_
  rintro (⟨⟩ | ⟨⟩) h
  ·try dsimp only at h
   cases h;exact ⟨rfl,rfl⟩
  try dsimp only at h
  refine Ask.o h λp30 h=> ?_
  cases h;exact ⟨rfl,rfl⟩
 cases h;exact ⟨rfl,rfl⟩
noncomputable def G8 (a0:SAlgebra) (first0:(List (List Int))) (rows0:(List (List Int))):Option Bool:=
 (Aq (D8 a0 first0 rows0) ((0:Int),Av (ByteArray×Bool))).bind λq5_7=>
 (Aq (C8 a0 first0 rows0 q5_7) (0:Int)).bind λt=>match t with
 | (.inl _)=>(some false)
 | (.inr _)=>((Aq (Dg a0 first0 rows0 q5_7) (0:Int)).bind λt=>match t with
 | (.inl _)=>(some false)
 | (.inr _)=>(some true))
theorem Aew {a0} {first0} {rows0} {v} (h:G8 a0 first0 rows0=some v):Ret Try.prog Mx [(Aj false) a0,(slr false 1 (slr false 1 Ae)) first0,(slr false 1 (slr false 1 Ae)) rows0] (V.bool v):=by
 refine Bn Aeg (Nat.le_of_ble_eq_true rfl) ?_;unfold G8 at h;refine Len.map<|LoopQ.o [21,20,19,7,3,1,2] (Jp a0 first0 rows0) (O4 a0 first0 rows0) h (λs o h=>Aaq s o h) (by rfl) (λ_=>rfl) ?_
 rintro q5_7 h;try dsimp only at h
 refine Len.map<|LoopQ.o [31,30,29,7,3,1,2] (J1 a0 first0 rows0 q5_7) (Py a0 first0 rows0 q5_7) h (λs o h=>Zo s o h) (by rfl) (by rintro (_ | _)<;>rfl) ?_
 rintro (⟨⟩ | ⟨⟩) h
 ·try dsimp only at h
  cases h;exact (by rfl)
 try dsimp only at h
 refine Cells.lit rfl rfl<|Len.map<|LoopQ.o [44,43,42,7,3,1,2] (Jx a0 first0 rows0 q5_7) (Qg a0 first0 rows0 q5_7) h (λs o h=>Aal s o h) (by rfl) (by rintro (_ | _)<;>rfl) ?_
 rintro (⟨⟩ | ⟨⟩) h
 ·try dsimp only at h
  cases h;exact (by rfl)
 try dsimp only at h
 cases h;exact (by rfl)
noncomputable def As (c0:Sl1Cur) (n0:Int):Option (Int×Sl1Cur):=
 if n0<=(1:Int) then
 some ((0:Int),c0)
 else
 (Gt (c0)).bind λ(r2,u3)=>
 if n0>(200:Int) then
 ask (InI (r2*(256:Int))) <|
 (Gt (u3)).bind λ(r6,u7)=>
 ask (InI (r2*(256:Int)+r6)) <|
 ask (n0≠(0:Int)) <|
 some ((r2*(256:Int)+r6).tmod n0,u7)
 else
 ask (n0≠(0:Int)) <|
 some (r2.tmod n0,u3)
theorem At {c0} {n0} {v} (h:As c0 n0=some v):Sn Try.prog Ar [(rP true (Al false)) c0,Ae n0] (Ae v.1) 0 (rP true (Al false) v.2):=by
 refine Ql Ahc (Nat.le_of_ble_eq_true rfl) ?_;unfold As at h;refine Br.od h (λp1 h=> ?_) (λp1 h=> ?_)
 ·cases h;exact ⟨(by rfl),(by rfl)⟩
 refine CallQ.io Ae (rP true (Al false)) (by rfl) rfl (λ_=>rfl) (λ_=>⟨rfl,rfl⟩) rfl h (λr h=>Ww h) (λr2 u3 h=> ?_);refine Br.od h (λp4 h=> ?_) (λp4 h=> ?_)
 ·refine Ask.o h λp5 h=>CallQ.io Ae (rP true (Al false)) (by rfl) rfl (λ_=>rfl) (λ_=>⟨rfl,rfl⟩) rfl h (λr h=>Ww h) (λr6 u7 h=> ?_)
  refine Ask.o h λp8 h=>Ask.o h λp9 h=> ?_
  cases h;exact ⟨(by rfl),(by rfl)⟩
 refine Ask.o h λp10 h=> ?_
 cases h;exact ⟨(by rfl),(by rfl)⟩
noncomputable def Bg (tables0:List (List Int)) (t0:List Int):Int->Option (Int ⊕ (Int ⊕ Unit)):=λx5=>
 if x5<(↑tables0.length:Int) then
 ask ((0:Int)<=x5/\x5<(↑tables0.length:Int)) <|
 (M3 (nth tables0 x5.toNat) (t0)).bind λr3=>
 if (r3)=true then
 some (.inr (.inl x5))
 else
 ask (InI (x5+(1:Int))) <|
 some (.inl (x5+(1:Int)))
 else
 some (.inr (.inr ()))
def Nq (tables0:List (List Int)) (t0:List Int):Int->St:=λs=>[(5,A.val (Ae s)),(0,A.val (slr false 1 (slr false 1 Ae) tables0)),(1,A.val (slr false 1 Ae t0))]
def Uu (_tables0:List (List Int)) (_t0:List Int):(Int ⊕ Unit)->Tgt
 | (.inl s)=>(Ex.ret,[4],[(4,A.val (Ae s))])
 | (.inr _s)=>((Ex.exit 0),[],[])
theorem Afp {tables0} {t0} (x5) o (h:Bg tables0 t0 x5=some o):vc Try.prog Uo (Ch [5,0,1] (Nq tables0 t0) (Uu tables0 t0) o) (Nq tables0 t0 x5):=by
 unfold Bg at h;try dsimp only at h
 refine Len.map<|Br.od h (λp1 h=> ?_) (λp1 h=> ?_)
 ·refine Len.map<|Ask.o h λp2 h=>Elem.o (by first | omega | (simp [Au] at * <;> omega))<|CallQ.o V.bool (by rfl) h (λr h=>Arf h) (λr3 h=> ?_)
  refine Br.ob h (λp4 h=> ?_) (λp4 h=> ?_)
  ·cases h;exact ⟨rfl,rfl⟩
  refine Ask.o h λp5 h=> ?_
  cases h;exact ⟨rfl,rfl⟩
 cases h;exact ⟨rfl,rfl⟩
noncomputable def Bx (tables0:(List (List Int))) (t0:(List Int)):Option Int:=
 (Aq (Bg tables0 t0) (0:Int)).bind λt=>match t with
 | (.inl q6_4)=>(some q6_4)
 | (.inr _)=>(some (-1:Int))
theorem Gw {tables0} {t0} {v} (h:Bx tables0 t0=some v):Ret Try.prog Ev [(slr false 1 (slr false 1 Ae)) tables0,(slr false 1 Ae) t0] (Ae v):=by
 refine Bn Anh (Nat.le_of_ble_eq_true rfl) ?_;unfold Bx at h;refine LoopQ.o [5,0,1] (Nq tables0 t0) (Uu tables0 t0) h (λs o h=>Afp s o h) (by rfl) (by rintro (_ | _)<;>rfl) ?_;rintro (q6_4 | ⟨⟩) h
 ·try dsimp only at h
  cases h;exact (by rfl)
 try dsimp only at h
 cases h;exact (by rfl)
end Go.Proofs.Ytaalgpkajkogkaa.Ax
