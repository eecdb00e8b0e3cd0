/-
 What the functions compute, as functions on plain data, and that the program does compute it; written by program.
-/
import Derived.Test.YtmkgjnphianalaaGreatCode
import Derived.Test.YtmkgjnphianalaaGreatG1
import Derived.Test.YtmkgjnphianalaaGreatG2
namespace Go.Proofs.YtmkgjnphianalaaGreat.Ax
open Go
set_option maxRecDepth 100000
set_option maxHeartbeats 4000000
noncomputable def Fd (a0:List Int) (b0:List Int):Int->Option (Int ⊕ (Bool ⊕ Unit)):=λx5=>
 if x5<(↑a0.length:Int) then
 ask ((0:Int)<=x5/\x5<(↑a0.length:Int)) <|
 ask ((0:Int)<=x5/\x5<(↑b0.length:Int)) <|
 if nth a0 x5.toNat≠nth b0 x5.toNat then
 ask ((0:Int)<=x5/\x5<(↑a0.length:Int)) <|
 ask ((0:Int)<=x5/\x5<(↑b0.length:Int)) <|
 some (.inr (.inl (decide (nth a0 x5.toNat<nth b0 x5.toNat))))
 else
 ask (InI (x5+(1:Int))) <|
 some (.inl (x5+(1:Int)))
 else
 some (.inr (.inr ()))
def Q6 (a0:List Int) (b0:List Int):Int->St:=λs=>[(5,A.val (Af s)),(0,A.val ((slr false 1 Af) (a0))),(1,A.val ((slr false 1 Af) (b0)))]
def Zz (_a0:List Int) (_b0:List Int):(Bool ⊕ Unit)->Tgt
 | (.inl s)=>(Ex.ret,[4],[(4,A.val (V.bool s))])
 | (.inr _s)=>((Ex.exit 0),[],[])
theorem Alg {a0:List Int} {b0:List Int} (x5:Int) (o:Int ⊕ (Bool ⊕ Unit)) (h:Fd a0 b0 x5=some o):vc Tryz.prog Y1 (Cd [5,0,1] (Q6 a0 b0) (Zz a0 b0) o) (Q6 a0 b0 x5):=by
 unfold Fd at h;try dsimp only at h
 refine Len.map<|Br.od h (λp1 h=> ?_) (λp1 h=> ?_)
 ·refine Len.map<|Ask.o h λp2 h=>Elem.o (by first | omega | (simp [Ap] at * <;> omega))<|Len.map<|Ask.o h λp3 h=>Elem.o (by first | omega | (simp [Ap] at * <;> omega))<|Br.on h (λp4 h=> ?_) (λp4 h=> ?_)
  ·refine Len.map<|Ask.o h λp5 h=>Elem.o (by first | omega | (simp [Ap] at * <;> omega))<|Len.map<|Ask.o h λp6 h=>Elem.o (by first | omega | (simp [Ap] at * <;> omega)) ?_
   cases h;exact ⟨rfl,rfl⟩
  refine Ask.o h λp7 h=> ?_
  cases h;exact ⟨rfl,rfl⟩
 cases h;exact ⟨rfl,rfl⟩
noncomputable def Jy (a0:(List Int)) (b0:(List Int)):Option Bool:=
 (Ak (Fd a0 b0) (0:Int)).bind λt=>match t with
 | (.inl q8_4)=>(some q8_4)
 | (.inr _)=>(some false)
theorem Afi {a0:(List Int)} {b0:(List Int)} {v:Bool} (h:Jy a0 b0=some v):Ret Tryz.prog Rp [(slr false 1 Af) a0,(slr false 1 Af) b0] (V.bool v):=by
 refine A4 Auh (Nat.le_of_ble_eq_true rfl) ?_;unfold Jy at h;refine LoopQ.o [5,0,1] (Q6 a0 b0) (Zz a0 b0) h (λs o h=>Alg s o h) (by rfl) (by rintro (_ | _)<;>rfl) ?_;rintro (q8_4 | ⟨⟩) h
 ·try dsimp only at h
  cases h;exact (by rfl)
 try dsimp only at h
 cases h;exact (by rfl)
noncomputable def F3 (p0:List Int):(Int×Int)->Option ((Int×Int) ⊕ Int):=λ(x4,x3)=>
 if x4<(↑p0.length:Int) then
 ask ((0:Int)<=x4/\x4<(↑p0.length:Int)) <|
 if nth p0 x4.toNat=x4 then
 ask (InI (x3+(1:Int))) <|
 ask (InI (x4+(1:Int))) <|
 some (.inl (x4+(1:Int),x3+(1:Int)))
 else
 ask (InI (x4+(1:Int))) <|
 some (.inl (x4+(1:Int),x3))
 else
 some (.inr x3)
def Oz (p0:List Int):(Int×Int)->St:=λs=>[(4,A.val (Af s.1)),(3,A.val (Af s.2)),(0,A.val ((slr false 1 Af) (p0)))]
def Xc (_p0:List Int):Int->Tgt
 | s=>((Ex.exit 0),[3],[(3,A.val (Af s))])
theorem Aig {p0:List Int} (s:(Int×Int)) (o:(Int×Int) ⊕ Int) (h:F3 p0 s=some o):vc Tryz.prog W3 (Cd [4,3,0] (Oz p0) (Xc p0) o) (Oz p0 s):=by
 obtain ⟨x4,x3⟩:=s;unfold F3 at h;try dsimp only at h
 refine Len.map<|Br.od h (λp1 h=> ?_) (λp1 h=> ?_)
 ·refine Len.map<|Ask.o h λp2 h=>Elem.o (by first | omega | (simp [Ap] at * <;> omega))<|Br.oe h (λp3 h=> ?_) (λp3 h=> ?_)
  ·refine Ask.o h λp4 h=>Ask.o h λp5 h=> ?_
   cases h;exact ⟨rfl,rfl⟩
  refine Ask.o h λp6 h=> ?_
  cases h;exact ⟨rfl,rfl⟩
 cases h;exact ⟨rfl,rfl⟩
noncomputable def Fr (p0:(List Int)):Option Int:=
 (Ak (F3 p0) ((0:Int),(0:Int))).bind λq7_3=>
 some q7_3
theorem Po {p0:(List Int)} {v:Int} (h:Fr p0=some v):Ret Tryz.prog Is [(slr false 1 Af) p0] (Af v):=by
 refine A4 Aq8 (Nat.le_of_ble_eq_true rfl) ?_;unfold Fr at h;refine LoopQ.o [4,3,0] (Oz p0) (Xc p0) h (λs o h=>Aig s o h) (by rfl) (λ_=>rfl) ?_;rintro q7_3 h;try dsimp only at h
 cases h;exact (by rfl)
noncomputable def Gb (p0:List Int) (q5_2:Int) (q5_1:Int):(Int×(List Int))->Option ((Int×(List Int)) ⊕ (List Int)):=λ(x26,x40)=>
 if x26<(↑p0.length:Int) then
 ask ((0:Int)<=x26/\x26<(↑x40.length:Int)) <|
 if nth x40 x26.toNat=q5_2 then
 ask ((0:Int)<=x26/\x26<(↑x40.length:Int)) <|
 ask (InI (x26+(1:Int))) <|
 some (.inl (x26+(1:Int),x40.set x26.toNat q5_1))
 else
 ask (InI (x26+(1:Int))) <|
 some (.inl (x26+(1:Int),x40))
 else
 some (.inr x40)
def Tr (p0:List Int) (q5_2:Int) (q5_1:Int):(Int×(List Int))->St:=λs=>[(26,A.val (Af s.1)),(25,A.val (Af ((↑p0.length:Int)))),(2,A.val (Af (q5_2))),(1,A.val (Af (q5_1))),(0,A.ref 40 []),(40,A.val ((slr true 1 Af) s.2))]
def Ab1 (_p0:List Int) (_q5_2:Int) (_q5_1:Int):(List Int)->Tgt
 | s=>((Ex.exit 0),[40],[(40,A.val ((slr true 1 Af) s))])
theorem Anr {p0:List Int} {q5_2:Int} {q5_1:Int} (s:(Int×(List Int))) (o:(Int×(List Int)) ⊕ (List Int)) (h:Gb p0 q5_2 q5_1 s=some o):vc Tryz.prog Abu (Cd [26,25,2,1,0,40] (Tr p0 q5_2 q5_1) (Ab1 p0 q5_2 q5_1) o) (Tr p0 q5_2 q5_1 s):=by
 obtain ⟨x26,x40⟩:=s;unfold Gb at h;try dsimp only at h
 refine Br.od h (λp6 h=> ?_) (λp6 h=> ?_)
 ·refine Len.map<|Ask.o h λp7 h=>Cells.one (λ_=>⟨rfl,rfl⟩) (by first | omega | (simp [Ap] at * <;> omega))<|Br.oe h (λp8 h=> ?_) (λp8 h=> ?_)
  ·refine Len.map<|Ask.o h λp9 h=>SetKids.one (λ_=>⟨rfl,rfl⟩) (q5_1) (by rfl) (by first | omega | (simp [Ap] at * <;> omega))<|Ask.o h λp10 h=> ?_
   cases h;exact ⟨rfl,rfl⟩
  refine Ask.o h λp11 h=> ?_
  cases h;exact ⟨rfl,rfl⟩
 cases h;exact ⟨rfl,rfl⟩
noncomputable def Ol (p0:(List Int)) (x0:Int) (y0:Int):Option (Bool×(List Int)):=
 ask ((0:Int)<=x0/\x0<(↑p0.length:Int)) <|
 ask ((0:Int)<=y0/\y0<(↑p0.length:Int)) <|
 if nth p0 x0.toNat=nth p0 y0.toNat then
 some (false,p0)
 else
 ((if nth p0 x0.toNat>nth p0 y0.toNat then
 some (nth p0 x0.toNat,nth p0 y0.toNat)
 else
 some (nth p0 y0.toNat,nth p0 x0.toNat):Option (Int×Int))).bind λ(q5_2,q5_1)=>
 (Ak (Gb p0 q5_2 q5_1) ((0:Int),p0)).bind λq12_40=>
 some (true,q12_40)
theorem Ax9 {p0:(List Int)} {x0:Int} {y0:Int} {v:(Bool×(List Int))} (h:Ol p0 x0 y0=some v):J7 Tryz.prog Abh [(slr true 1 Af) p0,Af x0,Af y0] (V.bool v.1) 0 ((slr true 1 Af) v.2):=by
 refine Ij Ayp (Nat.le_of_ble_eq_true rfl) ?_;unfold Ol at h;refine Len.map<|Ask.o h λp1 h=>Cells.one (λ_=>⟨rfl,rfl⟩) (by first | omega | (simp [Ap] at * <;> omega))<|Len.map<|Ask.o h λp2 h=>Cells.one (λ_=>⟨rfl,rfl⟩) (by first | omega | (simp [Ap] at * <;> omega))<|Br.oe h (λp3 h=> ?_) (λp3 h=> ?_)
 ·cases h;exact ⟨(by rfl),(by rfl)⟩
 refine CutQ.o (λt:(Int×Int)=>match t with | s=>(Ex.normal,[2,1,0,40],[(2,A.val (Af s.1)),(1,A.val (Af s.2)),(0,A.ref 40 []),(40,A.val ((slr true 1 Af) (p0)))])) h ?_ ?_
 ·intro t h;refine Br.od h (λp4 h=> ?_) (λp4 h=> ?_)
  ·cases h;exact ⟨rfl,rfl⟩
  cases h;exact ⟨rfl,rfl⟩
 rintro ⟨q5_2,q5_1⟩ h;try dsimp only at h
 refine Len.map<|LoopQ.o [26,25,2,1,0,40] (Tr p0 q5_2 q5_1) (Ab1 p0 q5_2 q5_1) h (λs o h=>Anr s o h) (by rfl) (λ_=>rfl) ?_
 rintro q12_40 h;try dsimp only at h
 cases h;exact ⟨(by rfl),(by rfl)⟩
noncomputable def E1 (n0:Int) (have0:List Bool):(Int×Int)->Option ((Int×Int) ⊕ (Unit ⊕ Unit)):=λ(x0,x1)=>
 if x1>(0:Int) then
 ask (n0≠(0:Int)) <|
 ask ((0:Int)<=x0.tmod n0/\x0.tmod n0<(↑have0.length:Int)) <|
 if (nth have0 (x0.tmod n0).toNat)=true then
 ask (n0≠(0:Int)/\InI (x0.tdiv n0)) <|
 ask (InI (x1-(1:Int))) <|
 some (.inl (x0.tdiv n0,x1-(1:Int)))
 else
 some (.inr (.inl ()))
 else
 some (.inr (.inr ()))
def S8 (n0:Int) (have0:List Bool):(Int×Int)->St:=λs=>[(0,A.val (Af s.1)),(1,A.val (Af s.2)),(2,A.val (Af (n0))),(3,A.val ((slr false 1 V.bool) (have0)))]
def Aca (_n0:Int) (_have0:List Bool):(Unit ⊕ Unit)->Tgt
 | (.inl _s)=>(Ex.ret,[8],[(8,A.val (V.bool (false)))])
 | (.inr _s)=>((Ex.exit 0),[],[])
theorem Amw {n0:Int} {have0:List Bool} (s:(Int×Int)) (o:(Int×Int) ⊕ (Unit ⊕ Unit)) (h:E1 n0 have0 s=some o):vc Tryz.prog Acg (Cd [0,1,2,3] (S8 n0 have0) (Aca n0 have0) o) (S8 n0 have0 s):=by
 obtain ⟨x0,x1⟩:=s;unfold E1 at h;try dsimp only at h
 refine Br.od h (λp1 h=> ?_) (λp1 h=> ?_)
 ·refine Ask.o h λp2 h=>Len.map<|Ask.o h λp3 h=>Elem.o (by first | omega | (simp [Ap] at * <;> omega))<|Br.flip<|Br.ob h (λp4 h=> ?_) (λp4 h=> ?_)
  ·refine Ask.o h λp5 h=>Ask.o h λp6 h=> ?_
   cases h;exact ⟨rfl,rfl⟩
  cases h;exact ⟨rfl,rfl⟩
 cases h;exact ⟨rfl,rfl⟩
noncomputable def Pq (i0:Int) (arity0:Int) (n0:Int) (have0:(List Bool)):Option Bool:=
 (Ak (E1 n0 have0) (i0,arity0)).bind λt=>match t with
 | (.inl _)=>(some false)
 | (.inr _)=>(some true)
theorem Av1 {i0:Int} {arity0:Int} {n0:Int} {have0:(List Bool)} {v:Bool} (h:Pq i0 arity0 n0 have0=some v):Ret Tryz.prog Aax [Af i0,Af arity0,Af n0,(slr false 1 V.bool) have0] (V.bool v):=by
 refine A4 Axt (Nat.le_of_ble_eq_true rfl) ?_;unfold Pq at h;refine LoopQ.o [0,1,2,3] (S8 n0 have0) (Aca n0 have0) h (λs o h=>Amw s o h) (by rfl) (by rintro (_ | _)<;>rfl) ?_;rintro (⟨⟩ | ⟨⟩) h
 ·try dsimp only at h
  cases h;exact (by rfl)
 try dsimp only at h
 cases h;exact (by rfl)
noncomputable def Di (n0:Int) (f0:List Int):(Int×Int)->Option ((Int×Int) ⊕ (Unit ⊕ Unit)):=λ(x0,x1)=>
 if x1>(0:Int) then
 ask (n0≠(0:Int)) <|
 ask ((0:Int)<=x0.tmod n0/\x0.tmod n0<(↑f0.length:Int)) <|
 if nth f0 (x0.tmod n0).toNat<(0:Int) then
 some (.inr (.inl ()))
 else
 ask (n0≠(0:Int)/\InI (x0.tdiv n0)) <|
 ask (InI (x1-(1:Int))) <|
 some (.inl (x0.tdiv n0,x1-(1:Int)))
 else
 some (.inr (.inr ()))
def Nw (n0:Int) (f0:List Int):(Int×Int)->St:=λs=>[(0,A.val (Af s.1)),(1,A.val (Af s.2)),(2,A.val (Af (n0))),(3,A.val ((slr false 1 Af) (f0)))]
def V7 (_n0:Int) (_f0:List Int):(Unit ⊕ Unit)->Tgt
 | (.inl _s)=>(Ex.ret,[8],[(8,A.val (V.bool (false)))])
 | (.inr _s)=>((Ex.exit 0),[],[])
theorem Aft {n0:Int} {f0:List Int} (s:(Int×Int)) (o:(Int×Int) ⊕ (Unit ⊕ Unit)) (h:Di n0 f0 s=some o):vc Tryz.prog U7 (Cd [0,1,2,3] (Nw n0 f0) (V7 n0 f0) o) (Nw n0 f0 s):=by
 obtain ⟨x0,x1⟩:=s;unfold Di at h;try dsimp only at h
 refine Br.od h (λp1 h=> ?_) (λp1 h=> ?_)
 ·refine Ask.o h λp2 h=>Len.map<|Ask.o h λp3 h=>Elem.o (by first | omega | (simp [Ap] at * <;> omega))<|Br.od h (λp4 h=> ?_) (λp4 h=> ?_)
  ·cases h;exact ⟨rfl,rfl⟩
  refine Ask.o h λp5 h=>Ask.o h λp6 h=> ?_
  cases h;exact ⟨rfl,rfl⟩
 cases h;exact ⟨rfl,rfl⟩
noncomputable def Jq (i0:Int) (arity0:Int) (n0:Int) (f0:(List Int)):Option Bool:=
 (Ak (Di n0 f0) (i0,arity0)).bind λt=>match t with
 | (.inl _)=>(some false)
 | (.inr _)=>(some true)
theorem Aom {i0:Int} {arity0:Int} {n0:Int} {f0:(List Int)} {v:Bool} (h:Jq i0 arity0 n0 f0=some v):Ret Tryz.prog Tf [Af i0,Af arity0,Af n0,(slr false 1 Af) f0] (V.bool v):=by
 refine A4 Am6 (Nat.le_of_ble_eq_true rfl) ?_;unfold Jq at h;refine LoopQ.o [0,1,2,3] (Nw n0 f0) (V7 n0 f0) h (λs o h=>Aft s o h) (by rfl) (by rintro (_ | _)<;>rfl) ?_;rintro (⟨⟩ | ⟨⟩) h
 ·try dsimp only at h
  cases h;exact (by rfl)
 try dsimp only at h
 cases h;exact (by rfl)
noncomputable def G1 (p0:List Int) (r2:List Bool):(Int×(List Int))->Option ((Int×(List Int)) ⊕ (List Int)):=λ(x18,x6)=>
 if x18<(↑p0.length:Int) then
 ask ((0:Int)<=x18/\x18<(↑p0.length:Int)) <|
 ask ((0:Int)<=nth p0 x18.toNat/\nth p0 x18.toNat<(↑r2.length:Int)) <|
 if (nth r2 (nth p0 x18.toNat).toNat)=true then
 ask ((x6).length+([x18]).length<=LIM) <|
 ask (InI (x18+(1:Int))) <|
 some (.inl (x18+(1:Int),x6++[x18]))
 else
 ask (InI (x18+(1:Int))) <|
 some (.inl (x18+(1:Int),x6))
 else
 some (.inr x6)
def Nc (p0:List Int) (r2:List Bool):(Int×(List Int))->St:=λs=>[(18,A.val (Af s.1)),(17,A.val (Af ((↑p0.length:Int)))),(16,A.val ((slr false 1 Af) (p0))),(6,A.val ((slr true 1 Af) s.2)),(5,A.val ((slr true 1 V.bool) (r2)))]
def V8 (_p0:List Int) (_r2:List Bool):(List Int)->Tgt
 | s=>((Ex.exit 0),[6],[(6,A.val ((slr true 1 Af) s))])
theorem Agh {p0:List Int} {r2:List Bool} (s:(Int×(List Int))) (o:(Int×(List Int)) ⊕ (List Int)) (h:G1 p0 r2 s=some o):vc Tryz.prog Vk (Cd [18,17,16,6,5] (Nc p0 r2) (V8 p0 r2) o) (Nc p0 r2 s):=by
 obtain ⟨x18,x6⟩:=s;unfold G1 at h;try dsimp only at h
 refine Br.od h (λp3 h=> ?_) (λp3 h=> ?_)
 ·refine Len.map<|Ask.o h λp4 h=>Elem.o (by first | omega | (simp [Ap] at * <;> omega))<|Len.map<|Ask.o h λp5 h=>Cells.one (λ_=>⟨rfl,rfl⟩) (by first | omega | (simp [Ap] at * <;> omega))<|Br.ob h (λp6 h=> ?_) (λp6 h=> ?_)
  ·refine BslQ.o Af [x18] (by exact λ_=>⟨rfl,rfl⟩) (by first | rfl | (simp only [Aa,V.fz,fzL,V.up,upL,Ab,Ac,Ad,slr,List.cons_append,List.nil_append];done) | simp [Aa,V.fz,fzL,V.up,upL,Ab,Ac,Ad,slr])<|NoOwn.o (λ_=>rfl)<|AppQ.o (m:=1) Af (by exact λ_=>⟨rfl,rfl⟩) (x6) ([x18]) (by rfl) (by rfl) h λh=>Ask.o h λp7 h=> ?_
   cases h;exact ⟨rfl,rfl⟩
  refine Ask.o h λp8 h=> ?_
  cases h;exact ⟨rfl,rfl⟩
 cases h;exact ⟨rfl,rfl⟩
noncomputable def Jm (sub0:(List Int)) (p0:(List Int)):Option (List Int):=
 (Fq (sub0) (p0)).bind λr1=>
 (I5 (r1) ((↑p0.length:Int))).bind λr2=>
 (Ak (G1 p0 r2) ((0:Int),Aw Int)).bind λq9_6=>
 some q9_6
theorem Aok {sub0:(List Int)} {p0:(List Int)} {v:(List Int)} (h:Jm sub0 p0=some v):Ret Tryz.prog Tu [(slr false 1 Af) sub0,(slr false 1 Af) p0] ((slr true 1 Af) v):=by
 refine A4 Aoj (Nat.le_of_ble_eq_true rfl) ?_;unfold Jm at h;refine CallQ.o (slr true 1 Af) (by rfl) h (λr h=>Oq h) (λr1 h=> ?_);refine Len.map<|CallQ.rd (slr true 1 V.bool) (by first | rfl | simp only [V.fz,Ab,slr] | simp [Aa,V.fz,fzL,V.up,upL,Ab,Ac,Ad,slr]) (λ_=>by simp [V.noFz,Ba]) h (λr h=>Aa2 h) (λr2 h=> ?_)
 refine BslQ.o Af (Aw Int) (by exact λ_=>⟨rfl,rfl⟩) (by first | rfl | (simp only [Aa,V.fz,fzL,V.up,upL,Ab,Ac,Ad,slr,List.cons_append,List.nil_append];done) | simp [Aa,V.fz,fzL,V.up,upL,Ab,Ac,Ad,slr])<|Len.map<|LoopQ.o [18,17,16,6,5] (Nc p0 r2) (V8 p0 r2) h (λs o h=>Agh s o h) (by rfl) (λ_=>rfl) ?_
 rintro q9_6 h;try dsimp only at h
 cases h;exact (by rfl)
noncomputable def M4 (f0:(List Int)) (n0:Int):Option (List Int):=
 (I5 (f0) (n0)).bind λr1=>
 (J1 (r1)).bind λr2=>
 some r2
theorem Aox {f0:(List Int)} {n0:Int} {v:(List Int)} (h:M4 f0 n0=some v):Ret Tryz.prog T6 [(slr false 1 Af) f0,Af n0] ((slr true 1 Af) v):=by refine A4 Aou (Nat.le_of_ble_eq_true rfl) ?_;unfold M4 at h;refine CallQ.o (slr true 1 V.bool) (by rfl) h (λr h=>Aa2 h) (λr1 h=> ?_);refine CallQ.rd (slr true 1 Af) (by first | rfl | simp only [V.fz,Ab,slr] | simp [Aa,V.fz,fzL,V.up,upL,Ab,Ac,Ad,slr]) (λ_=>by simp [V.noFz,Ba]) h (λr h=>Afq h) (λr2 h=> ?_);cases h;exact (by rfl)
noncomputable def Dk (_a0:SAlgebra) (sub0:List Int):(Int×(List Int))->Option ((Int×(List Int)) ⊕ (List Int)):=λ(x21,x5)=>
 if x21<(↑sub0.length:Int) then
 ask ((0:Int)<=x21/\x21<(↑sub0.length:Int)) <|
 ask ((0:Int)<=nth sub0 x21.toNat/\nth sub0 x21.toNat<(↑x5.length:Int)) <|
 ask (InI (x21+(1:Int))) <|
 some (.inl (x21+(1:Int),x5.set (nth sub0 x21.toNat).toNat x21))
 else
 some (.inr x5)
def Kv (a0:SAlgebra) (sub0:List Int):(Int×(List Int))->St:=λs=>[(21,A.val (Af s.1)),(20,A.val (Af ((↑sub0.length:Int)))),(19,A.val ((slr false 1 Af) (sub0))),(5,A.val ((slr true 1 Af) s.2)),(4,A.val ((rP true (Ag true)) ({ Size:=(0:Int),Ops:=Aw SOp }))),(2,A.val ((rP true (Ag false)) (a0))),(1,A.val ((slr false 1 Af) (sub0)))]
def Sz (a0:SAlgebra) (sub0:List Int):(List Int)->Tgt
 | s=>((Ex.exit 0),[5,4,2,1],[(5,A.val ((slr true 1 Af) s)),(4,A.val ((rP true (Ag true)) ({ Size:=(0:Int),Ops:=Aw SOp }))),(2,A.val ((rP true (Ag false)) (a0))),(1,A.val ((slr false 1 Af) (sub0)))])
theorem Aee {a0:SAlgebra} {sub0:List Int} (s:(Int×(List Int))) (o:(Int×(List Int)) ⊕ (List Int)) (h:Dk a0 sub0 s=some o):vc Tryz.prog Ru (Cd [21,20,19,5,4,2,1] (Kv a0 sub0) (Sz a0 sub0) o) (Kv a0 sub0 s):=by
 obtain ⟨x21,x5⟩:=s;unfold Dk at h;try dsimp only at h
 refine Br.od h (λp2 h=> ?_) (λp2 h=> ?_)
 ·refine Len.map<|Ask.o h λp3 h=>Elem.o (by first | omega | (simp [Ap] at * <;> omega))<|Len.map<|Ask.o h λp4 h=>SetKids.one (λ_=>⟨rfl,rfl⟩) (x21) (by rfl) (by first | omega | (simp [Ap] at * <;> omega))<|Ask.o h λp5 h=> ?_
  cases h;exact ⟨rfl,rfl⟩
 cases h;exact ⟨rfl,rfl⟩
noncomputable def Dm (_a0:SAlgebra) (sub0:List Int) (_q6_5:List Int) (_x37:Int) (_x8:SAlgebra) (_x12:Int) (_x11:SOp) (r11:List Int):(Int×(List Int))->Option ((Int×(List Int)) ⊕ (List Int)):=λ(x61,x13)=>
 if x61<(↑r11.length:Int) then
 ask ((0:Int)<=x61/\x61<(↑x13.length:Int)) <|
 ask ((0:Int)<=nth x13 x61.toNat/\nth x13 x61.toNat<(↑sub0.length:Int)) <|
 ask ((0:Int)<=x61/\x61<(↑x13.length:Int)) <|
 ask (InI (x61+(1:Int))) <|
 some (.inl (x61+(1:Int),x13.set x61.toNat (nth sub0 (nth x13 x61.toNat).toNat)))
 else
 some (.inr x13)
def K7 (a0:SAlgebra) (sub0:List Int) (q6_5:List Int) (x37:Int) (x8:SAlgebra) (x12:Int) (x11:SOp) (r11:List Int):(Int×(List Int))->St:=λs=>[(61,A.val (Af s.1)),(60,A.val (Af ((↑r11.length:Int)))),(59,A.ref 13 []),(13,A.val ((slr true 1 Af) s.2)),(12,A.val (Af (x12))),(11,A.val ((rP true (Ay true)) (x11))),(10,A.val ((rP true (Ay false)) (nth a0.Ops x37.toNat))),(37,A.val (Af (x37))),(36,A.val (Af ((↑a0.Ops.length:Int)))),(35,A.val ((slr false 2 (Ay false)) (a0.Ops))),(8,A.val ((rP true (Ag true)) (x8))),(5,A.val ((slr true 1 Af) (q6_5))),(4,A.val ((rP true (Ag true)) ({ Size:=(0:Int),Ops:=Aw SOp }))),(2,A.val ((rP true (Ag false)) (a0))),(1,A.val ((slr false 1 Af) (sub0)))]
def R9 (a0:SAlgebra) (sub0:List Int) (q6_5:List Int) (x37:Int) (x8:SAlgebra) (x12:Int) (x11:SOp) (_r11:List Int):(List Int)->Tgt
 | s=>((Ex.exit 6),[13,12,11,10,37,36,35,8,5,4,2,1],[(13,A.val ((slr true 1 Af) s)),(12,A.val (Af (x12))),(11,A.val ((rP true (Ay true)) (x11))),(10,A.val ((rP true (Ay false)) (nth a0.Ops x37.toNat))),(37,A.val (Af (x37))),(36,A.val (Af ((↑a0.Ops.length:Int)))),(35,A.val ((slr false 2 (Ay false)) (a0.Ops))),(8,A.val ((rP true (Ag true)) (x8))),(5,A.val ((slr true 1 Af) (q6_5))),(4,A.val ((rP true (Ag true)) ({ Size:=(0:Int),Ops:=Aw SOp }))),(2,A.val ((rP true (Ag false)) (a0))),(1,A.val ((slr false 1 Af) (sub0)))])
theorem Ads {a0:SAlgebra} {sub0:List Int} {q6_5:List Int} {x37:Int} {x8:SAlgebra} {x12:Int} {x11:SOp} {r11:List Int} (s:(Int×(List Int))) (o:(Int×(List Int)) ⊕ (List Int)) (h:Dm a0 sub0 q6_5 x37 x8 x12 x11 r11 s=some o):vc Tryz.prog S3 (Cd [61,60,59,13,12,11,10,37,36,35,8,5,4,2,1] (K7 a0 sub0 q6_5 x37 x8 x12 x11 r11) (R9 a0 sub0 q6_5 x37 x8 x12 x11 r11) o) (K7 a0 sub0 q6_5 x37 x8 x12 x11 r11 s):=by
 obtain ⟨x61,x13⟩:=s;unfold Dm at h;try dsimp only at h
 refine Br.od h (λp12 h=> ?_) (λp12 h=> ?_)
 ·refine Len.map<|Ask.o h λp13 h=>Cells.one (λ_=>⟨rfl,rfl⟩) (by first | omega | (simp [Ap] at * <;> omega))<|Len.map<|Ask.o h λp14 h=>Elem.o (by first | omega | (simp [Ap] at * <;> omega))<|Len.map<|Ask.o h λp15 h=>SetKids.one (λ_=>⟨rfl,rfl⟩) (nth sub0 (nth x13 x61.toNat).toNat) (by rfl) (by first | omega | (simp [Ap] at * <;> omega))<|Ask.o h λp16 h=> ?_
  cases h;exact ⟨rfl,rfl⟩
 cases h;exact ⟨rfl,rfl⟩
noncomputable def Df (a0:SAlgebra) (sub0:List Int) (q6_5:List Int) (x37:Int) (x8:SAlgebra):(Int×SOp)->Option ((Int×SOp) ⊕ SOp):=λ(x12,x11)=>
 (Hp ((↑sub0.length:Int)) ((nth a0.Ops x37.toNat).Arity)).bind λr9=>
 if x12<r9 then
 (J2 (x12) ((nth a0.Ops x37.toNat).Arity) ((↑sub0.length:Int))).bind λr11=>
 (Ak (Dm a0 sub0 q6_5 x37 x8 x12 x11 r11) ((0:Int),r11)).bind λq17_13=>
 (Im (q17_13) (a0.Size)).bind λr18=>
 ask ((0:Int)<=r18/\r18<(↑(nth a0.Ops x37.toNat).Table.length:Int)) <|
 ask ((0:Int)<=nth (nth a0.Ops x37.toNat).Table r18.toNat/\nth (nth a0.Ops x37.toNat).Table r18.toNat<(↑q6_5.length:Int)) <|
 ask ((x11.Table).length+([nth q6_5 (nth (nth a0.Ops x37.toNat).Table r18.toNat).toNat]).length<=LIM) <|
 ask (InI (x12+(1:Int))) <|
 some (.inl (x12+(1:Int),{ Arity:=x11.Arity,Table:=x11.Table++[nth q6_5 (nth (nth a0.Ops x37.toNat).Table r18.toNat).toNat] }))
 else
 some (.inr x11)
def Lj (a0:SAlgebra) (sub0:List Int) (q6_5:List Int) (x37:Int) (x8:SAlgebra):(Int×SOp)->St:=λs=>[(12,A.val (Af s.1)),(11,A.val ((rP true (Ay true)) s.2)),(10,A.val ((rP true (Ay false)) (nth a0.Ops x37.toNat))),(37,A.val (Af (x37))),(36,A.val (Af ((↑a0.Ops.length:Int)))),(35,A.val ((slr false 2 (Ay false)) (a0.Ops))),(8,A.val ((rP true (Ag true)) (x8))),(5,A.val ((slr true 1 Af) (q6_5))),(4,A.val ((rP true (Ag true)) ({ Size:=(0:Int),Ops:=Aw SOp }))),(2,A.val ((rP true (Ag false)) (a0))),(1,A.val ((slr false 1 Af) (sub0)))]
def R5 (a0:SAlgebra) (sub0:List Int) (q6_5:List Int) (x37:Int) (x8:SAlgebra):SOp->Tgt
 | s=>((Ex.exit 4),[11,37,36,35,8,5,4,2,1],[(11,A.val ((rP true (Ay true)) s)),(37,A.val (Af (x37))),(36,A.val (Af ((↑a0.Ops.length:Int)))),(35,A.val ((slr false 2 (Ay false)) (a0.Ops))),(8,A.val ((rP true (Ag true)) (x8))),(5,A.val ((slr true 1 Af) (q6_5))),(4,A.val ((rP true (Ag true)) ({ Size:=(0:Int),Ops:=Aw SOp }))),(2,A.val ((rP true (Ag false)) (a0))),(1,A.val ((slr false 1 Af) (sub0)))])
theorem Adr {a0:SAlgebra} {sub0:List Int} {q6_5:List Int} {x37:Int} {x8:SAlgebra} (s:(Int×SOp)) (o:(Int×SOp) ⊕ SOp) (h:Df a0 sub0 q6_5 x37 x8 s=some o):vc Tryz.prog Sh (Cd [12,11,10,37,36,35,8,5,4,2,1] (Lj a0 sub0 q6_5 x37 x8) (R5 a0 sub0 q6_5 x37 x8) o) (Lj a0 sub0 q6_5 x37 x8 s):=by
 obtain ⟨x12,x11⟩:=s;unfold Df at h;try dsimp only at h
 refine Len.map<|Cells.lit rfl rfl<|CallQ.o Af (by rfl) h (λr h=>Abi h) (λr9 h=> ?_)
 refine Br.od h (λp10 h=> ?_) (λp10 h=> ?_)
 ·refine Cells.lit rfl rfl<|Len.map<|CallQ.o (slr true 1 Af) (by rfl) h (λr h=>Afd h) (λr11 h=> ?_)
  refine Len.map<|LoopQ.o [61,60,59,13,12,11,10,37,36,35,8,5,4,2,1] (K7 a0 sub0 q6_5 x37 x8 x12 x11 r11) (R9 a0 sub0 q6_5 x37 x8 x12 x11 r11) h (λs o h=>Ads s o h) (by rfl) (λ_=>rfl) ?_
  rintro q17_13 h;try dsimp only at h
  refine Cells.lit rfl rfl<|Cells.lit rfl rfl<|Cells.lit rfl rfl<|CallP.rd Af (by first | rfl | simp only [V.fz,Ab,slr] | simp [Aa,V.fz,fzL,V.up,upL,Ab,Ac,Ad,slr]) (λ_=>rfl) h (λr h=>Ada h) (λr18 h=> ?_)
  refine Len.map<|Ask.o h λp19 h=>Elem.o (by first | omega | (simp [Ap] at * <;> omega))<|Len.map<|Ask.o h λp20 h=>Cells.one (λ_=>⟨rfl,rfl⟩) (by first | omega | (simp [Ap] at * <;> omega))<|BslQ.o Af ([nth q6_5 (nth (nth a0.Ops x37.toNat).Table r18.toNat).toNat]) (by exact λ_=>⟨rfl,rfl⟩) (by first | rfl | (simp only [Aa,V.fz,fzL,V.up,upL,Ab,Ac,Ad,slr,List.cons_append,List.nil_append];done) | simp [Aa,V.fz,fzL,V.up,upL,Ab,Ac,Ad,slr])<|NoOwn.o (λ_=>rfl)<|Kid.lit rfl rfl<|Kid.lit rfl rfl<|SetKids.lit rfl<|AppQ.o (m:=1) Af (by exact λ_=>⟨rfl,rfl⟩) (x11.Table) ([nth q6_5 (nth (nth a0.Ops x37.toNat).Table r18.toNat).toNat]) (by rfl) (by rfl) h λh=>SetKids.lit rfl<|Ask.o h λp21 h=> ?_
  cases h;exact ⟨rfl,rfl⟩
 cases h;exact ⟨rfl,rfl⟩
noncomputable def Dh (a0:SAlgebra) (sub0:List Int) (q6_5:List Int):(Int×SAlgebra)->Option ((Int×SAlgebra) ⊕ SAlgebra):=λ(x37,x8)=>
 if x37<(↑a0.Ops.length:Int) then
 ask ((0:Int)<=x37/\x37<(↑a0.Ops.length:Int)) <|
 (Ak (Df a0 sub0 q6_5 x37 x8) ((0:Int),{ Arity:=(nth a0.Ops x37.toNat).Arity,Table:=Aw Int })).bind λq22_11=>
 ask ((x8.Ops).length+([q22_11]).length<=LIM) <|
 ask (InI (x37+(1:Int))) <|
 some (.inl (x37+(1:Int),{ Size:=x8.Size,Ops:=x8.Ops++[q22_11] }))
 else
 some (.inr x8)
def Li (a0:SAlgebra) (sub0:List Int) (q6_5:List Int):(Int×SAlgebra)->St:=λs=>[(37,A.val (Af s.1)),(36,A.val (Af ((↑a0.Ops.length:Int)))),(35,A.val ((slr false 2 (Ay false)) (a0.Ops))),(8,A.val ((rP true (Ag true)) s.2)),(5,A.val ((slr true 1 Af) (q6_5))),(4,A.val ((rP true (Ag true)) ({ Size:=(0:Int),Ops:=Aw SOp }))),(2,A.val ((rP true (Ag false)) (a0))),(1,A.val ((slr false 1 Af) (sub0)))]
def Rx (_a0:SAlgebra) (_sub0:List Int) (_q6_5:List Int):SAlgebra->Tgt
 | s=>((Ex.exit 2),[8,4],[(8,A.val ((rP true (Ag true)) s)),(4,A.val ((rP true (Ag true)) ({ Size:=(0:Int),Ops:=Aw SOp })))])
theorem Ac8 {a0:SAlgebra} {sub0:List Int} {q6_5:List Int} (s:(Int×SAlgebra)) (o:(Int×SAlgebra) ⊕ SAlgebra) (h:Dh a0 sub0 q6_5 s=some o):vc Tryz.prog Sp (Cd [37,36,35,8,5,4,2,1] (Li a0 sub0 q6_5) (Rx a0 sub0 q6_5) o) (Li a0 sub0 q6_5 s):=by
 obtain ⟨x37,x8⟩:=s;unfold Dh at h;try dsimp only at h
 refine Br.od h (λp7 h=> ?_) (λp7 h=> ?_)
 ·refine Len.map<|Ask.o h λp8 h=>Elem.o (by first | omega | (simp [Ap] at * <;> omega))<|SetKids.lit rfl<|Cells.lit rfl rfl<|SetKids.lit rfl<|LoopQ.o [12,11,10,37,36,35,8,5,4,2,1] (Lj a0 sub0 q6_5 x37 x8) (R5 a0 sub0 q6_5 x37 x8) h (λs o h=>Adr s o h) (by rfl) (λ_=>rfl) ?_
  rintro q22_11 h;try dsimp only at h
  refine Cells.lit rfl rfl<|Cells.lit rfl rfl<|BslQ.o (Ay true) [q22_11] (by exact λ_=>⟨rfl,rfl⟩) (by first | rfl | (simp only [Aa,V.fz,fzL,V.up,upL,Ab,Ac,Ad,slr,List.cons_append,List.nil_append];done) | simp [Aa,V.fz,fzL,V.up,upL,Ab,Ac,Ad,slr])<|NoOwn.own rfl<|Kid.lit rfl rfl<|Kid.lit rfl rfl<|SetKids.lit rfl<|AppQ.o (m:=2) (Ay true) (by exact λ_=>⟨rfl,rfl⟩) (x8.Ops) ([q22_11]) (by rfl) (by rfl) h λh=>SetKids.lit rfl<|Ask.o h λp23 h=> ?_
  cases h;exact ⟨rfl,rfl⟩
 cases h;exact ⟨rfl,rfl⟩
noncomputable def Hr (a0:SAlgebra) (sub0:(List Int)):Option SAlgebra:=
 ask ((0:Int)<=a0.Size/\a0.Size<=(↑LIM:Int)) <|
 (Ak (Dk a0 sub0) ((0:Int),List.replicate a0.Size.toNat (0:Int))).bind λq6_5=>
 (Ak (Dh a0 sub0 q6_5) ((0:Int),{ Size:=(↑sub0.length:Int),Ops:=Aw SOp })).bind λq24_8=>
 some q24_8
theorem Ajx {a0:SAlgebra} {sub0:(List Int)} {v:SAlgebra} (h:Hr a0 sub0=some v):Ret Tryz.prog Pu [(Ag false) a0,(slr false 1 Af) sub0] ((Ag true) v):=by
 refine A4 Ai7 (Nat.le_of_ble_eq_true rfl) ?_;unfold Hr at h;refine Cells.lit rfl rfl<|Ask.o h λp1 h=>MkQ.o Af ((0:Int)) rfl<|Len.map<|LoopQ.o [21,20,19,5,4,2,1] (Kv a0 sub0) (Sz a0 sub0) h (λs o h=>Aee s o h) (by rfl) (λ_=>rfl) ?_
 rintro q6_5 h;try dsimp only at h
 refine Len.map<|SetKids.lit rfl<|Cells.lit rfl rfl<|Len.map<|LoopQ.o [37,36,35,8,5,4,2,1] (Li a0 sub0 q6_5) (Rx a0 sub0 q6_5) h (λs o h=>Ac8 s o h) (by rfl) (λ_=>rfl) ?_
 rintro q24_8 h;try dsimp only at h
 refine Cells.lit rfl rfl<|SetKids.lit rfl ?_
 cases h;exact (by rfl)
end Go.Proofs.YtmkgjnphianalaaGreat.Ax
