/-
 What the functions compute, as functions on plain data, and that the program does compute it; written by program.
-/
import Derived.Test.YtmkgjnphianalaaGreatCode
namespace Go.Proofs.YtmkgjnphianalaaGreat.Ax
open Go
set_option maxRecDepth 100000
set_option maxHeartbeats 4000000
noncomputable def Xq (code0:(List Int)):Option Bool:=
 some (decide ((↑code0.length:Int)>(65536:Int)))
theorem A1l {code0:(List Int)} {v:Bool} (h:Xq code0=some v):Ret Tryz.prog Acw [(slr false 1 (V.int IntKind.u8)) code0] (V.bool v):=by refine A4 A0w (Nat.le_of_ble_eq_true rfl) ?_;unfold Xq at h;refine Len.map ?_;cases h;exact (by rfl)
noncomputable def Ga (a0:List Int) (b0:List Int):Int->Option (Int ⊕ (Unit ⊕ Unit)):=λx5=>
 if x5<(↑a0.length:Int) then
 ask ((0:Int)<=x5/\x5<(↑a0.length:Int)) <|
 ask ((0:Int)<=x5/\x5<(↑b0.length:Int)) <|
 if nth a0 x5.toNat≠nth b0 x5.toNat then
 some (.inr (.inl ()))
 else
 ask (InI (x5+(1:Int))) <|
 some (.inl (x5+(1:Int)))
 else
 some (.inr (.inr ()))
def S9 (a0:List Int) (b0:List Int):Int->St:=λs=>[(5,A.val (Af s)),(0,A.val ((slr false 1 Af) (a0))),(1,A.val ((slr false 1 Af) (b0)))]
def Ab0 (_a0:List Int) (_b0:List Int):(Unit ⊕ Unit)->Tgt
 | (.inl _s)=>(Ex.ret,[4],[(4,A.val (V.bool (false)))])
 | (.inr _s)=>((Ex.exit 0),[],[])
theorem Aoe {a0:List Int} {b0:List Int} (x5:Int) (o:Int ⊕ (Unit ⊕ Unit)) (h:Ga a0 b0 x5=some o):vc Tryz.prog Ab9 (Cd [5,0,1] (S9 a0 b0) (Ab0 a0 b0) o) (S9 a0 b0 x5):=by
 unfold Ga at h;try dsimp only at h
 refine Len.map<|Br.od h (λp2 h=> ?_) (λp2 h=> ?_)
 ·refine Len.map<|Ask.o h λp3 h=>Elem.o (by first | omega | (simp [Ap] at * <;> omega))<|Len.map<|Ask.o h λp4 h=>Elem.o (by first | omega | (simp [Ap] at * <;> omega))<|Br.on h (λp5 h=> ?_) (λp5 h=> ?_)
  ·cases h;exact ⟨rfl,rfl⟩
  refine Ask.o h λp6 h=> ?_
  cases h;exact ⟨rfl,rfl⟩
 cases h;exact ⟨rfl,rfl⟩
noncomputable def Gg (a0:(List Int)) (b0:(List Int)):Option Bool:=
 if (↑a0.length:Int)≠(↑b0.length:Int) then
 some false
 else
 (Ak (Ga a0 b0) (0:Int)).bind λt=>match t with
 | (.inl _)=>(some false)
 | (.inr _)=>(some true)
theorem O7 {a0:(List Int)} {b0:(List Int)} {v:Bool} (h:Gg a0 b0=some v):Ret Tryz.prog Jb [(slr false 1 Af) a0,(slr false 1 Af) b0] (V.bool v):=by
 refine A4 Ayk (Nat.le_of_ble_eq_true rfl) ?_;unfold Gg at h;refine Len.map<|Len.map<|Br.on h (λp1 h=> ?_) (λp1 h=> ?_)
 ·cases h;exact (by rfl)
 refine LoopQ.o [5,0,1] (S9 a0 b0) (Ab0 a0 b0) h (λs o h=>Aoe s o h) (by rfl) (by rintro (_ | _)<;>rfl) ?_;rintro (⟨⟩ | ⟨⟩) h
 ·try dsimp only at h
  cases h;exact (by rfl)
 try dsimp only at h
 cases h;exact (by rfl)
noncomputable def Mm (_f0:(List Int)):Option Bool:=
 some true
theorem Afp {f0:(List Int)} {v:Bool} (h:Mm f0=some v):Ret Tryz.prog Rj [(slr false 1 Af) f0] (V.bool v):=by refine A4 Asz (Nat.le_of_ble_eq_true rfl) ?_;unfold Mm at h;cases h;exact (by rfl)
noncomputable def Fu (a0:Int) (b0:Int):Option Int:=
 if a0<b0 then
 some a0
 else
 some b0
theorem Ade {a0:Int} {b0:Int} {v:Int} (h:Fu a0 b0=some v):Ret Tryz.prog Oj [Af a0,Af b0] (Af v):=by
 refine A4 Apu (Nat.le_of_ble_eq_true rfl) ?_;unfold Fu at h;refine Br.od h (λp1 h=> ?_) (λp1 h=> ?_)
 ·cases h;exact (by rfl)
 cases h;exact (by rfl)
noncomputable def It (have0:List Bool):(Int×(List Int))->Option ((Int×(List Int)) ⊕ (List Int)):=λ(x9,x3)=>
 if x9<(↑have0.length:Int) then
 ask ((0:Int)<=x9/\x9<(↑have0.length:Int)) <|
 if (nth have0 x9.toNat)=true then
 ask ((x3).length+([x9]).length<=LIM) <|
 ask (InI (x9+(1:Int))) <|
 some (.inl (x9+(1:Int),x3++[x9]))
 else
 ask (InI (x9+(1:Int))) <|
 some (.inl (x9+(1:Int),x3))
 else
 some (.inr x3)
def Qj (have0:List Bool):(Int×(List Int))->St:=λs=>[(9,A.val (Af s.1)),(8,A.val (Af ((↑have0.length:Int)))),(7,A.val ((slr false 1 V.bool) (have0))),(3,A.val ((slr true 1 Af) s.2))]
def Aat (_have0:List Bool):(List Int)->Tgt
 | s=>((Ex.exit 0),[3],[(3,A.val ((slr true 1 Af) s))])
theorem Ali {have0:List Bool} (s:(Int×(List Int))) (o:(Int×(List Int)) ⊕ (List Int)) (h:It have0 s=some o):vc Tryz.prog Aaj (Cd [9,8,7,3] (Qj have0) (Aat have0) o) (Qj have0 s):=by
 obtain ⟨x9,x3⟩:=s;unfold It at h;try dsimp only at h
 refine Br.od h (λp1 h=> ?_) (λp1 h=> ?_)
 ·refine Len.map<|Ask.o h λp2 h=>Elem.o (by first | omega | (simp [Ap] at * <;> omega))<|Br.ob h (λp3 h=> ?_) (λp3 h=> ?_)
  ·refine BslQ.o Af [x9] (by exact λ_=>⟨rfl,rfl⟩) (by first | rfl | (simp only [Aa,V.fz,fzL,V.up,upL,Ab,Ac,Ad,slr,List.cons_append,List.nil_append];done) | simp [Aa,V.fz,fzL,V.up,upL,Ab,Ac,Ad,slr])<|NoOwn.o (λ_=>rfl)<|AppQ.o (m:=1) Af (by exact λ_=>⟨rfl,rfl⟩) (x3) ([x9]) (by rfl) (by rfl) h λh=>Ask.o h λp4 h=> ?_
   cases h;exact ⟨rfl,rfl⟩
  refine Ask.o h λp5 h=> ?_
  cases h;exact ⟨rfl,rfl⟩
 cases h;exact ⟨rfl,rfl⟩
noncomputable def J1 (have0:(List Bool)):Option (List Int):=
 (Ak (It have0) ((0:Int),Aw Int)).bind λq6_3=>
 some q6_3
theorem Afq {have0:(List Bool)} {v:(List Int)} (h:J1 have0=some v):Ret Tryz.prog Rr [(slr false 1 V.bool) have0] ((slr true 1 Af) v):=by
 refine A4 As5 (Nat.le_of_ble_eq_true rfl) ?_;unfold J1 at h;refine BslQ.o Af (Aw Int) (by exact λ_=>⟨rfl,rfl⟩) (by first | rfl | (simp only [Aa,V.fz,fzL,V.up,upL,Ab,Ac,Ad,slr,List.cons_append,List.nil_append];done) | simp [Aa,V.fz,fzL,V.up,upL,Ab,Ac,Ad,slr])<|Len.map<|LoopQ.o [9,8,7,3] (Qj have0) (Aat have0) h (λs o h=>Ali s o h) (by rfl) (λ_=>rfl) ?_
 rintro q6_3 h;try dsimp only at h
 cases h;exact (by rfl)
noncomputable def Ew (l0:List Int) (n0:Int):Int->Option (Int ⊕ Int):=λx5=>
 if x5<(↑l0.length:Int) then
 ask ((0:Int)<=x5/\x5<(↑l0.length:Int)) <|
 if nth l0 x5.toNat<n0 then
 ask (InI (x5+(1:Int))) <|
 some (.inl (x5+(1:Int)))
 else
 some (.inr x5)
 else
 some (.inr x5)
def Td (l0:List Int) (n0:Int):Int->St:=λs=>[(5,A.val (Af s)),(0,A.val ((slr false 1 Af) (l0))),(1,A.val (Af (n0)))]
def Ab8 (l0:List Int) (n0:Int):Int->Tgt
 | s=>((Ex.exit 0),[5,0,1],[(5,A.val (Af s)),(0,A.val ((slr false 1 Af) (l0))),(1,A.val (Af (n0)))])
theorem Aoi {l0:List Int} {n0:Int} (x5:Int) (o:Int ⊕ Int) (h:Ew l0 n0 x5=some o):vc Tryz.prog Ab4 (Cd [5,0,1] (Td l0 n0) (Ab8 l0 n0) o) (Td l0 n0 x5):=by
 unfold Ew at h;try dsimp only at h
 refine Len.map<|Br.od h (λp1 h=> ?_) (λp1 h=> ?_)
 ·refine Br.yes<|Br.yes<|Len.map<|Ask.o h λp2 h=>Elem.o (by first | omega | (simp [Ap] at * <;> omega))<|Br.yes<|Br.yes<|Br.yes<|Br.yes<|Br.od h (λp3 h=> ?_) (λp3 h=> ?_)
  ·refine Ask.o h λp4 h=> ?_
   cases h;exact ⟨rfl,rfl⟩
  cases h;exact ⟨rfl,rfl⟩
 refine Br.no<|Br.no<|Br.no<|Br.no<|Br.no<|Br.no<|Br.no ?_
 cases h;exact ⟨rfl,rfl⟩
noncomputable def Pg (l0:(List Int)) (n0:Int):Option (List Int):=
 (Ak (Ew l0 n0) (0:Int)).bind λq5_5=>
 ((if q5_5<(↑l0.length:Int) then
 ask ((0:Int)<=q5_5/\q5_5<(↑l0.length:Int)) <|
 if nth l0 q5_5.toNat=n0 then
 some (.inl ())
 else
 some (.inr ())
 else
 some (.inr ()):Option (Unit ⊕ Unit))).bind λt=>match t with
 | (.inl _)=>(some l0)
 | (.inr _)=>(ask (0<=(0:Int)/\(0:Int)<=q5_5/\q5_5<=((l0.length:Nat):Int)) <|
 ask ((Aw Int).length+(List.take (q5_5.toNat-Int.toNat (0:Int)) (List.drop (Int.toNat (0:Int)) l0)).length<=LIM) <|
 ask ((Aw Int++List.take (q5_5.toNat-Int.toNat (0:Int)) (List.drop (Int.toNat (0:Int)) l0)).length+([n0]).length<=LIM) <|
 ask (0<=q5_5/\q5_5<=(↑l0.length:Int)/\(↑l0.length:Int)<=((l0.length:Nat):Int)) <|
 ask ((Aw Int++List.take (q5_5.toNat-Int.toNat (0:Int)) (List.drop (Int.toNat (0:Int)) l0)++[n0]).length+(List.take ((↑l0.length:Int).toNat-q5_5.toNat) (List.drop q5_5.toNat l0)).length<=LIM) <|
 some (Aw Int++List.take (q5_5.toNat-Int.toNat (0:Int)) (List.drop (Int.toNat (0:Int)) l0)++[n0]++List.take ((↑l0.length:Int).toNat-q5_5.toNat) (List.drop q5_5.toNat l0)))
theorem Aw8 {l0:(List Int)} {n0:Int} {v:(List Int)} (h:Pg l0 n0=some v):Ret Tryz.prog Aaz [(slr false 1 Af) l0,Af n0] ((slr false 1 Af) v):=by
 refine Adw Axe (Nat.le_of_ble_eq_true rfl) ?_;unfold Pg at h;conv=>whnf
 refine LoopQ.o [5,0,1] (Td l0 n0) (Ab8 l0 n0) h (λs o h=>Aoi s o h) (by rfl) (λ_=>rfl) ?_;rintro q5_5 h;try dsimp only at h
 conv=>whnf
 refine CutQ.o (λt:(Unit ⊕ Unit)=>match t with | (.inl s)=>(Ex.ret,[4],[(4,A.val ((slr false 1 Af) (l0)))]) | (.inr s)=>(Ex.normal,[5,0,1],[(5,A.val (Af (q5_5))),(0,A.val ((slr false 1 Af) (l0))),(1,A.val (Af (n0)))])) h ?_ ?_
 ·intro t h;conv=>whnf
  refine Len.map ?_;conv=>whnf
  refine Br.od h (λp6 h=> ?_) (λp6 h=> ?_)
  ·conv=>whnf
   refine Br.yes ?_;conv=>whnf
   refine Br.yes ?_;conv=>whnf
   refine Len.map ?_;conv=>whnf
   refine Ask.o h λp7 h=> ?_
   conv=>whnf
   refine Elem.o (by first | omega | (simp [Ap] at * <;> omega)) ?_;conv=>whnf
   refine Br.yes ?_;conv=>whnf
   refine Br.yes ?_;conv=>whnf
   refine Br.yes ?_;conv=>whnf
   refine Br.yes ?_;conv=>whnf
   refine Br.oe h (λp8 h=> ?_) (λp8 h=> ?_)
   ·conv=>whnf
    cases h;exact ⟨rfl,rfl⟩
   conv=>whnf
   cases h;exact ⟨rfl,rfl⟩
  conv=>whnf
  refine Br.no ?_;conv=>whnf
  refine Br.no ?_;conv=>whnf
  refine Br.no ?_;conv=>whnf
  refine Br.no ?_;conv=>whnf
  refine Br.no ?_;conv=>whnf
  refine Br.no ?_;conv=>whnf
  refine Br.no ?_;conv=>whnf
  cases h;exact ⟨rfl,rfl⟩
 rintro (⟨⟩ | ⟨⟩) h
 ·try dsimp only at h
  conv=>whnf
  cases h;exact (by rfl)
 try dsimp only at h
 conv=>whnf
 refine BslQ.o Af (Aw Int) (by exact λ_=>⟨rfl,rfl⟩) (by first | rfl | (simp only [Aa,V.fz,fzL,V.up,upL,Ab,Ac,Ad,slr,List.cons_append,List.nil_append];done) | simp [Aa,V.fz,fzL,V.up,upL,Ab,Ac,Ad,slr]) ?_;conv=>whnf
 refine SlcQ.o Af h λh=> ?_
 conv=>whnf
 refine AppQ.o (m:=1) Af (by exact λ_=>⟨rfl,rfl⟩) (Aw Int) (List.take (q5_5.toNat-Int.toNat (0:Int)) (List.drop (Int.toNat (0:Int)) l0)) (by rfl) (by rfl) h λh=> ?_
 conv=>whnf
 refine BslQ.o Af [n0] (by exact λ_=>⟨rfl,rfl⟩) (by first | rfl | (simp only [Aa,V.fz,fzL,V.up,upL,Ab,Ac,Ad,slr,List.cons_append,List.nil_append];done) | simp [Aa,V.fz,fzL,V.up,upL,Ab,Ac,Ad,slr]) ?_;conv=>whnf
 refine NoOwn.o (λ_=>rfl) ?_;conv=>whnf
 refine AppQ.o (m:=1) Af (by exact λ_=>⟨rfl,rfl⟩) (Aw Int++List.take (q5_5.toNat-Int.toNat (0:Int)) (List.drop (Int.toNat (0:Int)) l0)) ([n0]) (by rfl) (by rfl) h λh=> ?_
 conv=>whnf
 refine Len.map ?_;conv=>whnf
 refine SlcQ.o Af h λh=> ?_
 conv=>whnf
 refine AppQ.o (m:=1) Af (by exact λ_=>⟨rfl,rfl⟩) (Aw Int++List.take (q5_5.toNat-Int.toNat (0:Int)) (List.drop (Int.toNat (0:Int)) l0)++[n0]) (List.take ((↑l0.length:Int).toNat-q5_5.toNat) (List.drop q5_5.toNat l0)) (by rfl) (by rfl) h λh=> ?_
 conv=>whnf
 cases h;exact (by first | rfl | simp only [Ah,Ac,slr] | simp [Ah,Aa,V.fz,fzL,V.up,upL,Ab,Ac,Ad,slr])
noncomputable def D6 (a0:List Int) (b0:List Int):Int->Option (Int ⊕ (Unit ⊕ Unit)):=λx14=>
 if x14<(↑a0.length:Int) then
 ask ((0:Int)<=x14/\x14<(↑a0.length:Int)) <|
 ask ((0:Int)<=x14/\x14<(↑b0.length:Int)) <|
 if nth b0 x14.toNat≠nth a0 x14.toNat then
 some (.inr (.inl ()))
 else
 ask (InI (x14+(1:Int))) <|
 some (.inl (x14+(1:Int)))
 else
 some (.inr (.inr ()))
def M5 (a0:List Int) (b0:List Int):Int->St:=λs=>[(14,A.val (Af s)),(13,A.val (Af ((↑a0.length:Int)))),(12,A.val ((slr false 1 Af) (a0))),(1,A.val ((slr false 1 Af) (b0)))]
def Vo (_a0:List Int) (_b0:List Int):(Unit ⊕ Unit)->Tgt
 | (.inl _s)=>(Ex.ret,[4],[(4,A.val (V.bool (false)))])
 | (.inr _s)=>((Ex.exit 0),[],[])
theorem Ag4 {a0:List Int} {b0:List Int} (x14:Int) (o:Int ⊕ (Unit ⊕ Unit)) (h:D6 a0 b0 x14=some o):vc Tryz.prog Wi (Cd [14,13,12,1] (M5 a0 b0) (Vo a0 b0) o) (M5 a0 b0 x14):=by
 unfold D6 at h;try dsimp only at h
 refine Br.od h (λp2 h=> ?_) (λp2 h=> ?_)
 ·refine Len.map<|Ask.o h λp3 h=>Elem.o (by first | omega | (simp [Ap] at * <;> omega))<|Len.map<|Ask.o h λp4 h=>Elem.o (by first | omega | (simp [Ap] at * <;> omega))<|Br.on h (λp5 h=> ?_) (λp5 h=> ?_)
  ·cases h;exact ⟨rfl,rfl⟩
  refine Ask.o h λp6 h=> ?_
  cases h;exact ⟨rfl,rfl⟩
 cases h;exact ⟨rfl,rfl⟩
noncomputable def Jp (a0:(List Int)) (b0:(List Int)):Option Bool:=
 if (↑a0.length:Int)≠(↑b0.length:Int) then
 some false
 else
 (Ak (D6 a0 b0) (0:Int)).bind λt=>match t with
 | (.inl _)=>(some false)
 | (.inr _)=>(some true)
theorem Anp {a0:(List Int)} {b0:(List Int)} {v:Bool} (h:Jp a0 b0=some v):Ret Tryz.prog Tg [(slr false 1 Af) a0,(slr false 1 Af) b0] (V.bool v):=by
 refine A4 Anu (Nat.le_of_ble_eq_true rfl) ?_;unfold Jp at h;refine Len.map<|Len.map<|Br.on h (λp1 h=> ?_) (λp1 h=> ?_)
 ·cases h;exact (by rfl)
 refine Len.map<|LoopQ.o [14,13,12,1] (M5 a0 b0) (Vo a0 b0) h (λs o h=>Ag4 s o h) (by rfl) (by rintro (_ | _)<;>rfl) ?_
 rintro (⟨⟩ | ⟨⟩) h
 ·try dsimp only at h
  cases h;exact (by rfl)
 try dsimp only at h
 cases h;exact (by rfl)
noncomputable def Eo (f0:List Int) (g0:List Int):(Int×(List Int))->Option ((Int×(List Int)) ⊕ (List Int)):=λ(x13,x5)=>
 if x13<(↑f0.length:Int) then
 ask ((0:Int)<=x13/\x13<(↑f0.length:Int)) <|
 ask ((0:Int)<=nth f0 x13.toNat/\nth f0 x13.toNat<(↑g0.length:Int)) <|
 ask ((0:Int)<=x13/\x13<(↑x5.length:Int)) <|
 ask (InI (x13+(1:Int))) <|
 some (.inl (x13+(1:Int),x5.set x13.toNat (nth g0 (nth f0 x13.toNat).toNat)))
 else
 some (.inr x5)
def Oo (f0:List Int) (g0:List Int):(Int×(List Int))->St:=λs=>[(13,A.val (Af s.1)),(12,A.val (Af ((↑f0.length:Int)))),(11,A.val ((slr false 1 Af) (f0))),(5,A.val ((slr true 1 Af) s.2)),(1,A.val ((slr false 1 Af) (g0)))]
def Xe (_f0:List Int) (_g0:List Int):(List Int)->Tgt
 | s=>((Ex.exit 0),[5],[(5,A.val ((slr true 1 Af) s))])
theorem Aib {f0:List Int} {g0:List Int} (s:(Int×(List Int))) (o:(Int×(List Int)) ⊕ (List Int)) (h:Eo f0 g0 s=some o):vc Tryz.prog Xa (Cd [13,12,11,5,1] (Oo f0 g0) (Xe f0 g0) o) (Oo f0 g0 s):=by
 obtain ⟨x13,x5⟩:=s;unfold Eo at h;try dsimp only at h
 refine Br.od h (λp2 h=> ?_) (λp2 h=> ?_)
 ·refine Len.map<|Ask.o h λp3 h=>Elem.o (by first | omega | (simp [Ap] at * <;> omega))<|Len.map<|Ask.o h λp4 h=>Elem.o (by first | omega | (simp [Ap] at * <;> omega))<|Len.map<|Ask.o h λp5 h=>SetKids.one (λ_=>⟨rfl,rfl⟩) (nth g0 (nth f0 x13.toNat).toNat) (by rfl) (by first | omega | (simp [Ap] at * <;> omega))<|Ask.o h λp6 h=> ?_
  cases h;exact ⟨rfl,rfl⟩
 cases h;exact ⟨rfl,rfl⟩
noncomputable def Fq (f0:(List Int)) (g0:(List Int)):Option (List Int):=
 ask ((0:Int)<=(↑f0.length:Int)/\(↑f0.length:Int)<=(↑LIM:Int)) <|
 (Ak (Eo f0 g0) ((0:Int),List.replicate (↑f0.length:Int).toNat (0:Int))).bind λq7_5=>
 some q7_5
theorem Oq {f0:(List Int)} {g0:(List Int)} {v:(List Int)} (h:Fq f0 g0=some v):Ret Tryz.prog I0 [(slr false 1 Af) f0,(slr false 1 Af) g0] ((slr true 1 Af) v):=by
 refine A4 Ash (Nat.le_of_ble_eq_true rfl) ?_;unfold Fq at h;refine Len.map<|Ask.o h λp1 h=>MkQ.o Af ((0:Int)) rfl<|Len.map<|LoopQ.o [13,12,11,5,1] (Oo f0 g0) (Xe f0 g0) h (λs o h=>Aib s o h) (by rfl) (λ_=>rfl) ?_
 rintro q7_5 h;try dsimp only at h
 cases h;exact (by rfl)
noncomputable def E6 (a0:List Int) (b0:List Int):Int->Option (Int ⊕ (Unit ⊕ Unit)):=λx5=>
 if x5<(↑a0.length:Int) then
 ask ((0:Int)<=x5/\x5<(↑a0.length:Int)) <|
 ask ((0:Int)<=x5/\x5<(↑b0.length:Int)) <|
 if nth a0 x5.toNat≠nth b0 x5.toNat then
 some (.inr (.inl ()))
 else
 ask (InI (x5+(1:Int))) <|
 some (.inl (x5+(1:Int)))
 else
 some (.inr (.inr ()))
def Qv (a0:List Int) (b0:List Int):Int->St:=λs=>[(5,A.val (Af s)),(0,A.val ((slr false 1 Af) (a0))),(1,A.val ((slr false 1 Af) (b0)))]
def Y4 (_a0:List Int) (_b0:List Int):(Unit ⊕ Unit)->Tgt
 | (.inl _s)=>(Ex.ret,[4],[(4,A.val (V.bool (false)))])
 | (.inr _s)=>((Ex.exit 0),[],[])
theorem Aks {a0:List Int} {b0:List Int} (x5:Int) (o:Int ⊕ (Unit ⊕ Unit)) (h:E6 a0 b0 x5=some o):vc Tryz.prog Z9 (Cd [5,0,1] (Qv a0 b0) (Y4 a0 b0) o) (Qv a0 b0 x5):=by
 unfold E6 at h;try dsimp only at h
 refine Len.map<|Br.od h (λp2 h=> ?_) (λp2 h=> ?_)
 ·refine Len.map<|Ask.o h λp3 h=>Elem.o (by first | omega | (simp [Ap] at * <;> omega))<|Len.map<|Ask.o h λp4 h=>Elem.o (by first | omega | (simp [Ap] at * <;> omega))<|Br.on h (λp5 h=> ?_) (λp5 h=> ?_)
  ·cases h;exact ⟨rfl,rfl⟩
  refine Ask.o h λp6 h=> ?_
  cases h;exact ⟨rfl,rfl⟩
 cases h;exact ⟨rfl,rfl⟩
noncomputable def Ib (a0:(List Int)) (b0:(List Int)):Option Bool:=
 if (↑a0.length:Int)≠(↑b0.length:Int) then
 some false
 else
 (Ak (E6 a0 b0) (0:Int)).bind λt=>match t with
 | (.inl _)=>(some false)
 | (.inr _)=>(some true)
theorem Yi {a0:(List Int)} {b0:(List Int)} {v:Bool} (h:Ib a0 b0=some v):Ret Tryz.prog Ms [(slr false 1 Af) a0,(slr false 1 Af) b0] (V.bool v):=by
 refine A4 Aub (Nat.le_of_ble_eq_true rfl) ?_;unfold Ib at h;refine Len.map<|Len.map<|Br.on h (λp1 h=> ?_) (λp1 h=> ?_)
 ·cases h;exact (by rfl)
 refine LoopQ.o [5,0,1] (Qv a0 b0) (Y4 a0 b0) h (λs o h=>Aks s o h) (by rfl) (by rintro (_ | _)<;>rfl) ?_;rintro (⟨⟩ | ⟨⟩) h
 ·try dsimp only at h
  cases h;exact (by rfl)
 try dsimp only at h
 cases h;exact (by rfl)
noncomputable def D2 (list0:List Int) (x10:Int):(List Int)->Option ((List Int) ⊕ (List Int)):=λx3'=>
 ask ((0:Int)<=x10/\x10<(↑x3'.length:Int)) <|
 ask ((0:Int)<=nth x3' x10.toNat/\nth x3' x10.toNat<(↑list0.length:Int)) <|
 ask ((0:Int)<=x10/\x10<(↑list0.length:Int)) <|
 if nth list0 (nth x3' x10.toNat).toNat≠nth list0 x10.toNat then
 ask ((0:Int)<=x10/\x10<(↑x3'.length:Int)) <|
 ask (InI (nth x3' x10.toNat+(1:Int))) <|
 ask ((0:Int)<=x10/\x10<(↑x3'.length:Int)) <|
 some (.inl (x3'.set x10.toNat (nth x3' x10.toNat+(1:Int))))
 else
 some (.inr x3')
def Nb (list0:List Int) (x10:Int):(List Int)->St:=λs=>[(4,A.val (Af (x10))),(10,A.val (Af (x10))),(9,A.val (Af ((↑list0.length:Int)))),(3,A.val ((slr true 1 Af) s)),(0,A.val ((slr false 1 Af) (list0)))]
def Vy (list0:List Int) (x10:Int):(List Int)->Tgt
 | s=>((Ex.exit 2),[10,9,3,0],[(10,A.val (Af (x10))),(9,A.val (Af ((↑list0.length:Int)))),(3,A.val ((slr true 1 Af) s)),(0,A.val ((slr false 1 Af) (list0)))])
theorem Ahb {list0:List Int} {x10:Int} (x3':(List Int)) (o:(List Int) ⊕ (List Int)) (h:D2 list0 x10 x3'=some o):vc Tryz.prog Va (Cd [4,10,9,3,0] (Nb list0 x10) (Vy list0 x10) o) (Nb list0 x10 x3'):=by
 unfold D2 at h;try dsimp only at h
 refine Len.map<|Ask.o h λp4 h=>Cells.one (λ_=>⟨rfl,rfl⟩) (by first | omega | (simp [Ap] at * <;> omega))<|Len.map<|Ask.o h λp5 h=>Elem.o (by first | omega | (simp [Ap] at * <;> omega))<|Len.map<|Ask.o h λp6 h=>Elem.o (by first | omega | (simp [Ap] at * <;> omega))<|Br.on h (λp7 h=> ?_) (λp7 h=> ?_)
 ·refine Len.map<|Ask.o h λp8 h=>Cells.one (λ_=>⟨rfl,rfl⟩) (by first | omega | (simp [Ap] at * <;> omega))<|Ask.o h λp9 h=>Len.map<|Ask.o h λp10 h=>SetKids.one (λ_=>⟨rfl,rfl⟩) (nth x3' x10.toNat+(1:Int)) (by rfl) (by first | omega | (simp [Ap] at * <;> omega)) ?_
  cases h;exact ⟨rfl,rfl⟩
 cases h;exact ⟨rfl,rfl⟩
noncomputable def D7 (list0:List Int):(Int×(List Int))->Option ((Int×(List Int)) ⊕ (List Int)):=λ(x10,x3)=>
 if x10<(↑list0.length:Int) then
 ask ((0:Int)<=x10/\x10<(↑x3.length:Int)) <|
 (Ak (D2 list0 x10) (x3.set x10.toNat (0:Int))).bind λq11_3=>
 ask (InI (x10+(1:Int))) <|
 some (.inl (x10+(1:Int),q11_3))
 else
 some (.inr x3)
def Nm (list0:List Int):(Int×(List Int))->St:=λs=>[(10,A.val (Af s.1)),(9,A.val (Af ((↑list0.length:Int)))),(3,A.val ((slr true 1 Af) s.2)),(0,A.val ((slr false 1 Af) (list0)))]
def Vu (_list0:List Int):(List Int)->Tgt
 | s=>((Ex.exit 0),[3],[(3,A.val ((slr true 1 Af) s))])
theorem Ahi {list0:List Int} (s:(Int×(List Int))) (o:(Int×(List Int)) ⊕ (List Int)) (h:D7 list0 s=some o):vc Tryz.prog U9 (Cd [10,9,3,0] (Nm list0) (Vu list0) o) (Nm list0 s):=by
 obtain ⟨x10,x3⟩:=s;unfold D7 at h;try dsimp only at h
 refine Br.od h (λp2 h=> ?_) (λp2 h=> ?_)
 ·refine Len.map<|Ask.o h λp3 h=>SetKids.one (λ_=>⟨rfl,rfl⟩) ((0:Int)) (by rfl) (by first | omega | (simp [Ap] at * <;> omega))<|LoopQ.o [4,10,9,3,0] (Nb list0 x10) (Vy list0 x10) h (λs o h=>Ahb s o h) (by rfl) (λ_=>rfl) ?_
  rintro q11_3 h;try dsimp only at h
  refine Ask.o h λp12 h=> ?_
  cases h;exact ⟨rfl,rfl⟩
 cases h;exact ⟨rfl,rfl⟩
noncomputable def Jo (list0:(List Int)):Option (List Int):=
 ask ((0:Int)<=(↑list0.length:Int)/\(↑list0.length:Int)<=(↑LIM:Int)) <|
 (Ak (D7 list0) ((0:Int),List.replicate (↑list0.length:Int).toNat (0:Int))).bind λq13_3=>
 some q13_3
theorem Aod {list0:(List Int)} {v:(List Int)} (h:Jo list0=some v):Ret Tryz.prog T5 [(slr false 1 Af) list0] ((slr true 1 Af) v):=by
 refine A4 Aoq (Nat.le_of_ble_eq_true rfl) ?_;unfold Jo at h;refine Len.map<|Ask.o h λp1 h=>MkQ.o Af ((0:Int)) rfl<|Len.map<|LoopQ.o [10,9,3,0] (Nm list0) (Vu list0) h (λs o h=>Ahi s o h) (by rfl) (λ_=>rfl) ?_
 rintro q13_3 h;try dsimp only at h
 cases h;exact (by rfl)
noncomputable def D5 (values0:List Int) (x4:Int) (_x3:List Int):Int->Option (Int ⊕ Int):=λx5=>
 ask ((0:Int)<=x5/\x5<(↑values0.length:Int)) <|
 ask ((0:Int)<=x4/\x4<(↑values0.length:Int)) <|
 if nth values0 x5.toNat≠nth values0 x4.toNat then
 ask (InI (x5+(1:Int))) <|
 some (.inl (x5+(1:Int)))
 else
 some (.inr x5)
def Nq (values0:List Int) (x4:Int) (x3:List Int):Int->St:=λs=>[(5,A.val (Af s)),(4,A.val (Af (x4))),(3,A.val ((slr true 1 Af) (x3))),(0,A.val ((slr false 1 Af) (values0)))]
def Vf (values0:List Int) (x4:Int) (x3:List Int):Int->Tgt
 | s=>((Ex.exit 2),[5,4,3,0],[(5,A.val (Af s)),(4,A.val (Af (x4))),(3,A.val ((slr true 1 Af) (x3))),(0,A.val ((slr false 1 Af) (values0)))])
theorem Agi {values0:List Int} {x4:Int} {x3:List Int} (x5:Int) (o:Int ⊕ Int) (h:D5 values0 x4 x3 x5=some o):vc Tryz.prog Vh (Cd [5,4,3,0] (Nq values0 x4 x3) (Vf values0 x4 x3) o) (Nq values0 x4 x3 x5):=by
 unfold D5 at h;try dsimp only at h
 refine Len.map<|Ask.o h λp2 h=>Elem.o (by first | omega | (simp [Ap] at * <;> omega))<|Len.map<|Ask.o h λp3 h=>Elem.o (by first | omega | (simp [Ap] at * <;> omega))<|Br.on h (λp4 h=> ?_) (λp4 h=> ?_)
 ·refine Ask.o h λp5 h=> ?_
  cases h;exact ⟨rfl,rfl⟩
 cases h;exact ⟨rfl,rfl⟩
noncomputable def D4 (values0:List Int):(Int×(List Int))->Option ((Int×(List Int)) ⊕ (List Int)):=λ(x4,x3)=>
 if x4<(↑values0.length:Int) then
 (Ak (D5 values0 x4 x3) (0:Int)).bind λq6_5=>
 ask ((x3).length+([q6_5]).length<=LIM) <|
 ask (InI (x4+(1:Int))) <|
 some (.inl (x4+(1:Int),x3++[q6_5]))
 else
 some (.inr x3)
def M6 (values0:List Int):(Int×(List Int))->St:=λs=>[(4,A.val (Af s.1)),(3,A.val ((slr true 1 Af) s.2)),(0,A.val ((slr false 1 Af) (values0)))]
def Vv (_values0:List Int):(List Int)->Tgt
 | s=>((Ex.exit 0),[3],[(3,A.val ((slr true 1 Af) s))])
theorem Ahq {values0:List Int} (s:(Int×(List Int))) (o:(Int×(List Int)) ⊕ (List Int)) (h:D4 values0 s=some o):vc Tryz.prog Ve (Cd [4,3,0] (M6 values0) (Vv values0) o) (M6 values0 s):=by
 obtain ⟨x4,x3⟩:=s;unfold D4 at h;try dsimp only at h
 refine Len.map<|Br.od h (λp1 h=> ?_) (λp1 h=> ?_)
 ·refine LoopQ.o [5,4,3,0] (Nq values0 x4 x3) (Vf values0 x4 x3) h (λs o h=>Agi s o h) (by rfl) (λ_=>rfl) ?_;rintro q6_5 h;try dsimp only at h
  refine BslQ.o Af [q6_5] (by exact λ_=>⟨rfl,rfl⟩) (by first | rfl | (simp only [Aa,V.fz,fzL,V.up,upL,Ab,Ac,Ad,slr,List.cons_append,List.nil_append];done) | simp [Aa,V.fz,fzL,V.up,upL,Ab,Ac,Ad,slr])<|NoOwn.o (λ_=>rfl)<|AppQ.o (m:=1) Af (by exact λ_=>⟨rfl,rfl⟩) (x3) ([q6_5]) (by rfl) (by rfl) h λh=>Ask.o h λp7 h=> ?_
  cases h;exact ⟨rfl,rfl⟩
 cases h;exact ⟨rfl,rfl⟩
noncomputable def Jk (values0:(List Int)):Option (List Int):=
 (Ak (D4 values0) ((0:Int),Aw Int)).bind λq8_3=>
 some q8_3
theorem Ao9 {values0:(List Int)} {v:(List Int)} (h:Jk values0=some v):Ret Tryz.prog Tw [(slr false 1 Af) values0] ((slr true 1 Af) v):=by
 refine A4 Am8 (Nat.le_of_ble_eq_true rfl) ?_;unfold Jk at h;refine BslQ.o Af (Aw Int) (by exact λ_=>⟨rfl,rfl⟩) (by first | rfl | (simp only [Aa,V.fz,fzL,V.up,upL,Ab,Ac,Ad,slr,List.cons_append,List.nil_append];done) | simp [Aa,V.fz,fzL,V.up,upL,Ab,Ac,Ad,slr])<|LoopQ.o [4,3,0] (M6 values0) (Vv values0) h (λs o h=>Ahq s o h) (by rfl) (λ_=>rfl) ?_
 rintro q8_3 h;try dsimp only at h
 cases h;exact (by rfl)
end Go.Proofs.YtmkgjnphianalaaGreat.Ax
