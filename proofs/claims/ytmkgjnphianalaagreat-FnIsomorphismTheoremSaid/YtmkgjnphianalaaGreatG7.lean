/-
 What the functions compute, as functions on plain data, and that the program does compute it; written by program.
-/
import Derived.Test.YtmkgjnphianalaaGreatCode
import Derived.Test.YtmkgjnphianalaaGreatG1
import Derived.Test.YtmkgjnphianalaaGreatG2
import Derived.Test.YtmkgjnphianalaaGreatG4
namespace Go.Proofs.YtmkgjnphianalaaGreat.Ax
open Go
set_option maxRecDepth 100000
set_option maxHeartbeats 4000000
noncomputable def Jn (list0:List (List Int)) (p0:List Int):Int->Option (Int ⊕ Int):=λx5=>
 if x5<(↑list0.length:Int) then
 ask ((0:Int)<=x5/\x5<(↑list0.length:Int)) <|
 (Fr (nth list0 x5.toNat)).bind λr3=>
 (Fr (p0)).bind λr4=>
 if r3>r4 then
 ask (InI (x5+(1:Int))) <|
 some (.inl (x5+(1:Int)))
 else
 ask ((0:Int)<=x5/\x5<(↑list0.length:Int)) <|
 (Fr (nth list0 x5.toNat)).bind λr8=>
 (Fr (p0)).bind λr9=>
 if r8=r9 then
 ask ((0:Int)<=x5/\x5<(↑list0.length:Int)) <|
 (Jy (nth list0 x5.toNat) (p0)).bind λr12=>
 if (r12)=true then
 ask (InI (x5+(1:Int))) <|
 some (.inl (x5+(1:Int)))
 else
 some (.inr x5)
 else
 some (.inr x5)
 else
 some (.inr x5)
def Tv (list0:List (List Int)) (p0:List Int):Int->St:=λs=>[(5,A.val (Af s)),(0,A.val ((slr false 1 (slr false 1 Af)) (list0))),(1,A.val ((slr false 1 Af) (p0)))]
def Acc (list0:List (List Int)) (p0:List Int):Int->Tgt
 | s=>((Ex.exit 0),[5,0,1],[(5,A.val (Af s)),(0,A.val ((slr false 1 (slr false 1 Af)) (list0))),(1,A.val ((slr false 1 Af) (p0)))])
theorem Anc {list0:List (List Int)} {p0:List Int} (x5:Int) (o:Int ⊕ Int) (h:Jn list0 p0 x5=some o):vc Tryz.prog Ab2 (Cd [5,0,1] (Tv list0 p0) (Acc list0 p0) o) (Tv list0 p0 x5):=by
 unfold Jn at h;try dsimp only at h
 refine Len.map<|Br.od h (λp1 h=> ?_) (λp1 h=> ?_)
 ·refine Br.yes<|Br.yes<|Len.map<|Ask.o h λp2 h=>Elem.o (by first | omega | (simp [Ap] at * <;> omega))<|Br.yes<|Br.yes<|CallQ.o Af (by rfl) h (λr h=>Po h) (λr3 h=> ?_)
  refine Br.yes<|Br.yes<|CallQ.o Af (by rfl) h (λr h=>Po h) (λr4 h=> ?_)
  refine Br.yes<|Br.yes<|Br.od h (λp5 h=> ?_) (λp5 h=> ?_)
  ·refine Br.yes<|Br.yes<|Br.yes<|Br.yes<|Br.yes<|Br.yes<|Br.yes<|Br.yes<|Br.yes<|Br.yes<|Br.yes<|Br.yes<|Br.yes<|Ask.o h λp6 h=> ?_
   cases h;exact ⟨rfl,rfl⟩
  refine Br.no<|Br.no<|Len.map<|Ask.o h λp7 h=>Elem.o (by first | omega | (simp [Ap] at * <;> omega))<|Br.no<|Br.no<|CallQ.o Af (by rfl) h (λr h=>Po h) (λr8 h=> ?_)
  refine Br.no<|Br.no<|CallQ.o Af (by rfl) h (λr h=>Po h) (λr9 h=> ?_)
  refine Br.no<|Br.no<|Br.oe h (λp10 h=> ?_) (λp10 h=> ?_)
  ·refine Br.yes<|Br.yes<|Len.map<|Ask.o h λp11 h=>Elem.o (by first | omega | (simp [Ap] at * <;> omega))<|Br.yes<|Br.yes<|Br.yes<|CallQ.o V.bool (by rfl) h (λr h=>Afi h) (λr12 h=> ?_)
   refine Br.no<|Br.yes<|Br.yes<|Br.no<|Br.yes<|Br.ob h (λp13 h=> ?_) (λp13 h=> ?_)
   ·refine Ask.o h λp14 h=> ?_
    cases h;exact ⟨rfl,rfl⟩
   cases h;exact ⟨rfl,rfl⟩
  refine Br.no<|Br.no<|Br.no<|Br.no<|Br.no<|Br.no<|Br.no<|Br.yes<|Br.no<|Br.yes<|Br.no ?_
  cases h;exact ⟨rfl,rfl⟩
 refine Br.no<|Br.no<|Br.no<|Br.no<|Br.no<|Br.no<|Br.no<|Br.no<|Br.no<|Br.no<|Br.no ?_
 cases h;exact ⟨rfl,rfl⟩
noncomputable def Lw (list0:(List (List Int))) (p0:(List Int)):Option (List (List Int)):=
 (Ak (Jn list0 p0) (0:Int)).bind λq15_5=>
 ((if q15_5<(↑list0.length:Int) then
 ask ((0:Int)<=q15_5/\q15_5<(↑list0.length:Int)) <|
 (Ib (nth list0 q15_5.toNat) (p0)).bind λr18=>
 if (r18)=true then
 some (.inl ())
 else
 some (.inr ())
 else
 some (.inr ()):Option (Unit ⊕ Unit))).bind λt=>match t with
 | (.inl _)=>(some list0)
 | (.inr _)=>(ask (0<=(0:Int)/\(0:Int)<=q15_5/\q15_5<=((list0.length:Nat):Int)) <|
 ask ((Aw (List Int)).length+(List.take (q15_5.toNat-Int.toNat (0:Int)) (List.drop (Int.toNat (0:Int)) list0)).length<=LIM) <|
 ask ((Aw (List Int)++List.take (q15_5.toNat-Int.toNat (0:Int)) (List.drop (Int.toNat (0:Int)) list0)).length+([p0]).length<=LIM) <|
 ask (0<=q15_5/\q15_5<=(↑list0.length:Int)/\(↑list0.length:Int)<=((list0.length:Nat):Int)) <|
 ask ((Aw (List Int)++List.take (q15_5.toNat-Int.toNat (0:Int)) (List.drop (Int.toNat (0:Int)) list0)++[p0]).length+(List.take ((↑list0.length:Int).toNat-q15_5.toNat) (List.drop q15_5.toNat list0)).length<=LIM) <|
 some (Aw (List Int)++List.take (q15_5.toNat-Int.toNat (0:Int)) (List.drop (Int.toNat (0:Int)) list0)++[p0]++List.take ((↑list0.length:Int).toNat-q15_5.toNat) (List.drop q15_5.toNat list0)))
theorem Ai0 {list0:(List (List Int))} {p0:(List Int)} {v:(List (List Int))} (h:Lw list0 p0=some v):Ret Tryz.prog Uu [(slr false 1 (slr false 1 Af)) list0,(slr false 1 Af) p0] ((slr false 1 (slr false 1 Af)) v):=by
 refine Adw Awq (Nat.le_of_ble_eq_true rfl) ?_;unfold Lw at h;conv=>whnf
 refine LoopQ.o [5,0,1] (Tv list0 p0) (Acc list0 p0) h (λs o h=>Anc s o h) (by rfl) (λ_=>rfl) ?_;rintro q15_5 h;try dsimp only at h
 conv=>whnf
 refine CutQ.o (λt:(Unit ⊕ Unit)=>match t with | (.inl s)=>(Ex.ret,[4],[(4,A.val ((slr false 1 (slr false 1 Af)) (list0)))]) | (.inr s)=>(Ex.normal,[5,0,1],[(5,A.val (Af (q15_5))),(0,A.val ((slr false 1 (slr false 1 Af)) (list0))),(1,A.val ((slr false 1 Af) (p0)))])) h ?_ ?_
 ·intro t h;conv=>whnf
  refine Len.map ?_;conv=>whnf
  refine Br.od h (λp16 h=> ?_) (λp16 h=> ?_)
  ·conv=>whnf
   refine Br.yes ?_;conv=>whnf
   refine Br.yes ?_;conv=>whnf
   refine Len.map ?_;conv=>whnf
   refine Ask.o h λp17 h=> ?_
   conv=>whnf
   refine Elem.o (by first | omega | (simp [Ap] at * <;> omega)) ?_;conv=>whnf
   refine Br.yes ?_;conv=>whnf
   refine Br.yes ?_;conv=>whnf
   refine Br.yes ?_;conv=>whnf
   refine CallQ.o V.bool (by rfl) h (λr h=>Yi h) (λr18 h=> ?_);conv=>whnf
   refine Br.yes ?_;conv=>whnf
   refine Br.ob h (λp19 h=> ?_) (λp19 h=> ?_)
   ·conv=>whnf
    cases h;exact ⟨rfl,rfl⟩
   conv=>whnf
   cases h;exact ⟨rfl,rfl⟩
  conv=>whnf
  refine Br.no ?_;conv=>whnf
  refine Br.no ?_;conv=>whnf
  refine Br.no ?_;conv=>whnf
  refine Br.no ?_;conv=>whnf
  refine Br.no ?_;conv=>whnf
  refine Br.no ?_;conv=>whnf
  refine Br.no ?_;conv=>whnf
  cases h;exact ⟨rfl,rfl⟩
 rintro (⟨⟩ | ⟨⟩) h
 ·try dsimp only at h
  conv=>whnf
  cases h;exact (by rfl)
 try dsimp only at h
 conv=>whnf
 refine BslQ.o (slr true 1 Af) (Aw (List Int)) (by exact λ_=>⟨rfl,rfl⟩) (by first | rfl | (simp only [Aa,V.fz,fzL,V.up,upL,Ab,Ac,Ad,slr,List.cons_append,List.nil_append];done) | simp [Aa,V.fz,fzL,V.up,upL,Ab,Ac,Ad,slr]) ?_;conv=>whnf
 refine SlcQ.o (slr false 1 Af) h λh=> ?_
 conv=>whnf
 refine AppQ.o (m:=1) (slr false 1 Af) (by exact λ_=>⟨rfl,rfl⟩) (Aw (List Int)) (List.take (q15_5.toNat-Int.toNat (0:Int)) (List.drop (Int.toNat (0:Int)) list0)) (by rfl) (by rfl) h λh=> ?_
 conv=>whnf
 refine BslQ.o (slr false 1 Af) [p0] (by exact λ_=>⟨rfl,rfl⟩) (by first | rfl | (simp only [Aa,V.fz,fzL,V.up,upL,Ab,Ac,Ad,slr,List.cons_append,List.nil_append];done) | simp [Aa,V.fz,fzL,V.up,upL,Ab,Ac,Ad,slr]) ?_;conv=>whnf
 refine NoOwn.o (λ_=>rfl) ?_;conv=>whnf
 refine AppQ.o (m:=1) (slr false 1 Af) (by exact λ_=>⟨rfl,rfl⟩) (Aw (List Int)++List.take (q15_5.toNat-Int.toNat (0:Int)) (List.drop (Int.toNat (0:Int)) list0)) ([p0]) (by rfl) (by rfl) h λh=> ?_
 conv=>whnf
 refine Len.map ?_;conv=>whnf
 refine SlcQ.o (slr false 1 Af) h λh=> ?_
 conv=>whnf
 refine AppQ.o (m:=1) (slr false 1 Af) (by exact λ_=>⟨rfl,rfl⟩) (Aw (List Int)++List.take (q15_5.toNat-Int.toNat (0:Int)) (List.drop (Int.toNat (0:Int)) list0)++[p0]) (List.take ((↑list0.length:Int).toNat-q15_5.toNat) (List.drop q15_5.toNat list0)) (by rfl) (by rfl) h λh=> ?_
 conv=>whnf
 cases h;exact (by first | rfl | simp only [Ah,Ac,slr] | simp [Ah,Aa,V.fz,fzL,V.up,upL,Ab,Ac,Ad,slr])
noncomputable def Ci (a0:SAlgebra) (x18:Int) (_x10:Int) (x9:Int):(Int×Bool×Bool×(List Int))->Option ((Int×Bool×Bool×(List Int)) ⊕ (Bool×Bool×(List Int))):=λ(x31,x6''',x5''',x67''')=>
 if x31<(↑(nth a0.Ops x18.toNat).Table.length:Int) then
 ask ((0:Int)<=x31/\x31<(↑(nth a0.Ops x18.toNat).Table.length:Int)) <|
 ask (x9≠(0:Int)/\InI (x31.tdiv x9)) <|
 ask (a0.Size≠(0:Int)) <|
 ask ((0:Int)<=(x31.tdiv x9).tmod a0.Size/\(x31.tdiv x9).tmod a0.Size<(↑x67'''.length:Int)) <|
 ask (InI (nth x67''' ((x31.tdiv x9).tmod a0.Size).toNat-(x31.tdiv x9).tmod a0.Size)) <|
 ask (InI ((nth x67''' ((x31.tdiv x9).tmod a0.Size).toNat-(x31.tdiv x9).tmod a0.Size)*x9)) <|
 ask (InI (x31+(nth x67''' ((x31.tdiv x9).tmod a0.Size).toNat-(x31.tdiv x9).tmod a0.Size)*x9)) <|
 ask ((0:Int)<=x31+(nth x67''' ((x31.tdiv x9).tmod a0.Size).toNat-(x31.tdiv x9).tmod a0.Size)*x9/\x31+(nth x67''' ((x31.tdiv x9).tmod a0.Size).toNat-(x31.tdiv x9).tmod a0.Size)*x9<(↑(nth a0.Ops x18.toNat).Table.length:Int)) <|
 (Ol (x67''') (nth (nth a0.Ops x18.toNat).Table x31.toNat) (nth (nth a0.Ops x18.toNat).Table (x31+(nth x67''' ((x31.tdiv x9).tmod a0.Size).toNat-(x31.tdiv x9).tmod a0.Size)*x9).toNat)).bind λ(r14,u15)=>
 if (r14)=true then
 ask (InI (x31+(1:Int))) <|
 some (.inl (x31+(1:Int),true,true,u15))
 else
 ask (InI (x31+(1:Int))) <|
 some (.inl (x31+(1:Int),x6''',x5''',u15))
 else
 some (.inr (x6''',x5''',x67'''))
def H8 (a0:SAlgebra) (x18:Int) (x10:Int) (x9:Int):(Int×Bool×Bool×(List Int))->St:=λs=>[(31,A.val (Af s.1)),(30,A.val (Af ((↑(nth a0.Ops x18.toNat).Table.length:Int)))),(29,A.val ((slr false 1 Af) ((nth a0.Ops x18.toNat).Table))),(10,A.val (Af (x10))),(9,A.val (Af (x9))),(8,A.val ((rP true (Ay false)) (nth a0.Ops x18.toNat))),(18,A.val (Af (x18))),(17,A.val (Af ((↑a0.Ops.length:Int)))),(16,A.val ((slr false 2 (Ay false)) (a0.Ops))),(6,A.val (V.bool s.2.1)),(5,A.val (V.bool s.2.2.1)),(2,A.val ((rP true (Ag false)) (a0))),(1,A.ref 67 []),(67,A.val ((slr true 1 Af) s.2.2.2))]
def Mn (a0:SAlgebra) (x18:Int) (x10:Int) (x9:Int):(Bool×Bool×(List Int))->Tgt
 | s=>((Ex.exit 6),[10,9,8,18,17,16,6,5,2,1,67],[(10,A.val (Af (x10))),(9,A.val (Af (x9))),(8,A.val ((rP true (Ay false)) (nth a0.Ops x18.toNat))),(18,A.val (Af (x18))),(17,A.val (Af ((↑a0.Ops.length:Int)))),(16,A.val ((slr false 2 (Ay false)) (a0.Ops))),(6,A.val (V.bool s.1)),(5,A.val (V.bool s.2.1)),(2,A.val ((rP true (Ag false)) (a0))),(1,A.ref 67 []),(67,A.val ((slr true 1 Af) s.2.2))])
theorem Yj {a0:SAlgebra} {x18:Int} {x10:Int} {x9:Int} (s:(Int×Bool×Bool×(List Int))) (o:(Int×Bool×Bool×(List Int)) ⊕ (Bool×Bool×(List Int))) (h:Ci a0 x18 x10 x9 s=some o):vc Tryz.prog Mi (Cd [31,30,29,10,9,8,18,17,16,6,5,2,1,67] (H8 a0 x18 x10 x9) (Mn a0 x18 x10 x9) o) (H8 a0 x18 x10 x9 s):=by
 obtain ⟨x31,x6''',x5''',x67'''⟩:=s;unfold Ci at h;try dsimp only at h
 refine Br.od h (λp5 h=> ?_) (λp5 h=> ?_)
 ·refine Len.map<|Ask.o h λp6 h=>Elem.o (by first | omega | (simp [Ap] at * <;> omega))<|Ask.o h λp7 h=>Cells.lit rfl rfl<|Ask.o h λp8 h=>Cells.lit rfl rfl<|Len.map<|Ask.o h λp9 h=>Cells.one (λ_=>⟨rfl,rfl⟩) (by first | omega | (simp [Ap] at * <;> omega))<|Ask.o h λp10 h=>Ask.o h λp11 h=>Ask.o h λp12 h=>Len.map<|Ask.o h λp13 h=>Elem.o (by first | omega | (simp [Ap] at * <;> omega))<|CallQ.io V.bool (slr true 1 Af) (by rfl) rfl (λ_=>rfl) (λ_=>⟨rfl,rfl⟩) rfl h (λr h=>Ax9 h) (λr14 u15 h=> ?_)
  refine Br.ob h (λp16 h=> ?_) (λp16 h=> ?_)
  ·refine Ask.o h λp17 h=> ?_
   cases h;exact ⟨rfl,rfl⟩
  refine Ask.o h λp18 h=> ?_
  cases h;exact ⟨rfl,rfl⟩
 cases h;exact ⟨rfl,rfl⟩
noncomputable def Ch (a0:SAlgebra) (x18:Int):(Int×Int×Bool×Bool×(List Int))->Option ((Int×Int×Bool×Bool×(List Int)) ⊕ (Bool×Bool×(List Int))):=λ(x10,x9,x6'',x5'',x67'')=>
 if x10<(nth a0.Ops x18.toNat).Arity then
 (Ak (Ci a0 x18 x10 x9) ((0:Int),x6'',x5'',x67'')).bind λ(q19_6,q19_5,q19_67)=>
 ask (InI (x9*a0.Size)) <|
 ask (InI (x10+(1:Int))) <|
 some (.inl (x10+(1:Int),x9*a0.Size,q19_6,q19_5,q19_67))
 else
 some (.inr (x6'',x5'',x67''))
def H3 (a0:SAlgebra) (x18:Int):(Int×Int×Bool×Bool×(List Int))->St:=λs=>[(10,A.val (Af s.1)),(9,A.val (Af s.2.1)),(8,A.val ((rP true (Ay false)) (nth a0.Ops x18.toNat))),(18,A.val (Af (x18))),(17,A.val (Af ((↑a0.Ops.length:Int)))),(16,A.val ((slr false 2 (Ay false)) (a0.Ops))),(6,A.val (V.bool s.2.2.1)),(5,A.val (V.bool s.2.2.2.1)),(2,A.val ((rP true (Ag false)) (a0))),(1,A.ref 67 []),(67,A.val ((slr true 1 Af) s.2.2.2.2))]
def Mw (a0:SAlgebra) (x18:Int):(Bool×Bool×(List Int))->Tgt
 | s=>((Ex.exit 4),[18,17,16,6,5,2,1,67],[(18,A.val (Af (x18))),(17,A.val (Af ((↑a0.Ops.length:Int)))),(16,A.val ((slr false 2 (Ay false)) (a0.Ops))),(6,A.val (V.bool s.1)),(5,A.val (V.bool s.2.1)),(2,A.val ((rP true (Ag false)) (a0))),(1,A.ref 67 []),(67,A.val ((slr true 1 Af) s.2.2))])
theorem X8 {a0:SAlgebra} {x18:Int} (s:(Int×Int×Bool×Bool×(List Int))) (o:(Int×Int×Bool×Bool×(List Int)) ⊕ (Bool×Bool×(List Int))) (h:Ch a0 x18 s=some o):vc Tryz.prog Ml (Cd [10,9,8,18,17,16,6,5,2,1,67] (H3 a0 x18) (Mw a0 x18) o) (H3 a0 x18 s):=by
 obtain ⟨x10,x9,x6'',x5'',x67''⟩:=s;unfold Ch at h;try dsimp only at h
 refine Cells.lit rfl rfl<|Br.od h (λp4 h=> ?_) (λp4 h=> ?_)
 ·refine Cells.lit rfl rfl<|Len.map<|LoopQ.o [31,30,29,10,9,8,18,17,16,6,5,2,1,67] (H8 a0 x18 x10 x9) (Mn a0 x18 x10 x9) h (λs o h=>Yj s o h) (by rfl) (λ_=>rfl) ?_
  rintro ⟨q19_6,q19_5,q19_67⟩ h;try dsimp only at h
  refine Cells.lit rfl rfl<|Ask.o h λp20 h=>Ask.o h λp21 h=> ?_
  cases h;exact ⟨rfl,rfl⟩
 cases h;exact ⟨rfl,rfl⟩
noncomputable def Cj (a0:SAlgebra):(Int×Bool×Bool×(List Int))->Option ((Int×Bool×Bool×(List Int)) ⊕ (Bool×Bool×(List Int))):=λ(x18,x6',x5',x67')=>
 if x18<(↑a0.Ops.length:Int) then
 ask ((0:Int)<=x18/\x18<(↑a0.Ops.length:Int)) <|
 (Ak (Ch a0 x18) ((0:Int),(1:Int),x6',x5',x67')).bind λ(q22_6,q22_5,q22_67)=>
 ask (InI (x18+(1:Int))) <|
 some (.inl (x18+(1:Int),q22_6,q22_5,q22_67))
 else
 some (.inr (x6',x5',x67'))
def Id (a0:SAlgebra):(Int×Bool×Bool×(List Int))->St:=λs=>[(18,A.val (Af s.1)),(17,A.val (Af ((↑a0.Ops.length:Int)))),(16,A.val ((slr false 2 (Ay false)) (a0.Ops))),(6,A.val (V.bool s.2.1)),(5,A.val (V.bool s.2.2.1)),(2,A.val ((rP true (Ag false)) (a0))),(1,A.ref 67 []),(67,A.val ((slr true 1 Af) s.2.2.2))]
def Mh (a0:SAlgebra):(Bool×Bool×(List Int))->Tgt
 | s=>((Ex.exit 2),[6,5,2,1,67],[(6,A.val (V.bool s.1)),(5,A.val (V.bool s.2.1)),(2,A.val ((rP true (Ag false)) (a0))),(1,A.ref 67 []),(67,A.val ((slr true 1 Af) s.2.2))])
theorem X2 {a0:SAlgebra} (s:(Int×Bool×Bool×(List Int))) (o:(Int×Bool×Bool×(List Int)) ⊕ (Bool×Bool×(List Int))) (h:Cj a0 s=some o):vc Tryz.prog Ma (Cd [18,17,16,6,5,2,1,67] (Id a0) (Mh a0) o) (Id a0 s):=by
 obtain ⟨x18,x6',x5',x67'⟩:=s;unfold Cj at h;try dsimp only at h
 refine Br.od h (λp2 h=> ?_) (λp2 h=> ?_)
 ·refine Len.map<|Ask.o h λp3 h=>Elem.o (by first | omega | (simp [Ap] at * <;> omega))<|SetKids.lit rfl<|LoopQ.o [10,9,8,18,17,16,6,5,2,1,67] (H3 a0 x18) (Mw a0 x18) h (λs o h=>X8 s o h) (by rfl) (λ_=>rfl) ?_
  rintro ⟨q22_6,q22_5,q22_67⟩ h;try dsimp only at h
  refine Ask.o h λp23 h=> ?_
  cases h;exact ⟨rfl,rfl⟩
 cases h;exact ⟨rfl,rfl⟩
noncomputable def Dy (a0:SAlgebra):(Bool×Bool×(List Int))->Option ((Bool×Bool×(List Int)) ⊕ (Bool×(List Int))):=λ(x6,x5,x67)=>
 if (x6)=true then
 (Ak (Cj a0) ((0:Int),false,x5,x67)).bind λ(q24_6,q24_5,q24_67)=>
 some (.inl (q24_6,q24_5,q24_67))
 else
 some (.inr (x5,x67))
def H7 (a0:SAlgebra):(Bool×Bool×(List Int))->St:=λs=>[(6,A.val (V.bool s.1)),(5,A.val (V.bool s.2.1)),(2,A.val ((rP true (Ag false)) (a0))),(1,A.ref 67 []),(67,A.val ((slr true 1 Af) s.2.2))]
def Mf (_a0:SAlgebra):(Bool×(List Int))->Tgt
 | s=>((Ex.exit 0),[5,67],[(5,A.val (V.bool s.1)),(67,A.val ((slr true 1 Af) s.2))])
theorem Yg {a0:SAlgebra} (s:(Bool×Bool×(List Int))) (o:(Bool×Bool×(List Int)) ⊕ (Bool×(List Int))) (h:Dy a0 s=some o):vc Tryz.prog Mz (Cd [6,5,2,1,67] (H7 a0) (Mf a0) o) (H7 a0 s):=by
 obtain ⟨x6,x5,x67⟩:=s;unfold Dy at h;try dsimp only at h
 refine Br.ob h (λp1 h=> ?_) (λp1 h=> ?_)
 ·refine Cells.lit rfl rfl<|Len.map<|LoopQ.o [18,17,16,6,5,2,1,67] (Id a0) (Mh a0) h (λs o h=>X2 s o h) (by rfl) (λ_=>rfl) ?_
  rintro ⟨q24_6,q24_5,q24_67⟩ h;try dsimp only at h
  cases h;exact ⟨rfl,rfl⟩
 cases h;exact ⟨rfl,rfl⟩
noncomputable def E4 (a0:SAlgebra) (p0:(List Int)):Option (Bool×(List Int)):=
 (Ak (Dy a0) (true,false,p0)).bind λ(q25_5,q25_67)=>
 some (q25_5,q25_67)
theorem Aco {a0:SAlgebra} {p0:(List Int)} {v:(Bool×(List Int))} (h:E4 a0 p0=some v):J7 Tryz.prog Kb [(Ag false) a0,(slr true 1 Af) p0] (V.bool v.1) 1 ((slr true 1 Af) v.2):=by
 refine Ij Acr (Nat.le_of_ble_eq_true rfl) ?_;unfold E4 at h;refine LoopQ.o [6,5,2,1,67] (H7 a0) (Mf a0) h (λs o h=>Yg s o h) (by rfl) (λ_=>rfl) ?_;rintro ⟨q25_5,q25_67⟩ h;try dsimp only at h
 cases h;exact ⟨(by rfl),(by rfl)⟩
noncomputable def Ec (a0:SAlgebra) (x14:Int):(Int×Bool×(List Bool))->Option ((Int×Bool×(List Bool)) ⊕ (Bool×(List Bool))):=λ(x21,x5'',x47'')=>
 if x21<(↑(nth a0.Ops x14.toNat).Table.length:Int) then
 ask ((0:Int)<=x21/\x21<(↑(nth a0.Ops x14.toNat).Table.length:Int)) <|
 ask ((0:Int)<=nth (nth a0.Ops x14.toNat).Table x21.toNat/\nth (nth a0.Ops x14.toNat).Table x21.toNat<(↑x47''.length:Int)) <|
 if (nth x47'' (nth (nth a0.Ops x14.toNat).Table x21.toNat).toNat)=true then
 ask (InI (x21+(1:Int))) <|
 some (.inl (x21+(1:Int),x5'',x47''))
 else
 (Pq (x21) ((nth a0.Ops x14.toNat).Arity) (a0.Size) (x47'')).bind λr9=>
 if (r9)=true then
 ask ((0:Int)<=nth (nth a0.Ops x14.toNat).Table x21.toNat/\nth (nth a0.Ops x14.toNat).Table x21.toNat<(↑x47''.length:Int)) <|
 ask (InI (x21+(1:Int))) <|
 some (.inl (x21+(1:Int),true,x47''.set (nth (nth a0.Ops x14.toNat).Table x21.toNat).toNat true))
 else
 ask (InI (x21+(1:Int))) <|
 some (.inl (x21+(1:Int),x5'',x47''))
 else
 some (.inr (x5'',x47''))
def Kw (a0:SAlgebra) (x14:Int):(Int×Bool×(List Bool))->St:=λs=>[(21,A.val (Af s.1)),(20,A.val (Af ((↑(nth a0.Ops x14.toNat).Table.length:Int)))),(19,A.val ((slr false 1 Af) ((nth a0.Ops x14.toNat).Table))),(7,A.val ((rP true (Ay false)) (nth a0.Ops x14.toNat))),(14,A.val (Af (x14))),(13,A.val (Af ((↑a0.Ops.length:Int)))),(12,A.val ((slr false 2 (Ay false)) (a0.Ops))),(5,A.val (V.bool s.2.1)),(2,A.val ((rP true (Ag false)) (a0))),(1,A.ref 47 []),(47,A.val ((slr true 1 V.bool) s.2.2))]
def So (a0:SAlgebra) (x14:Int):(Bool×(List Bool))->Tgt
 | s=>((Ex.exit 4),[14,13,12,5,2,1,47],[(14,A.val (Af (x14))),(13,A.val (Af ((↑a0.Ops.length:Int)))),(12,A.val ((slr false 2 (Ay false)) (a0.Ops))),(5,A.val (V.bool s.1)),(2,A.val ((rP true (Ag false)) (a0))),(1,A.ref 47 []),(47,A.val ((slr true 1 V.bool) s.2))])
theorem Ad1 {a0:SAlgebra} {x14:Int} (s:(Int×Bool×(List Bool))) (o:(Int×Bool×(List Bool)) ⊕ (Bool×(List Bool))) (h:Ec a0 x14 s=some o):vc Tryz.prog Sm (Cd [21,20,19,7,14,13,12,5,2,1,47] (Kw a0 x14) (So a0 x14) o) (Kw a0 x14 s):=by
 obtain ⟨x21,x5'',x47''⟩:=s;unfold Ec at h;try dsimp only at h
 refine Br.od h (λp4 h=> ?_) (λp4 h=> ?_)
 ·refine Len.map<|Ask.o h λp5 h=>Elem.o (by first | omega | (simp [Ap] at * <;> omega))<|Len.map<|Ask.o h λp6 h=>Cells.one (λ_=>⟨rfl,rfl⟩) (by first | omega | (simp [Ap] at * <;> omega))<|Br.flip<|Br.ob h (λp7 h=> ?_) (λp7 h=> ?_)
  ·refine Br.no<|Br.no<|Br.no<|Br.no<|Br.no<|Br.no<|Br.no<|Br.no<|Ask.o h λp8 h=> ?_
   cases h;exact ⟨rfl,rfl⟩
  refine Br.yes<|Br.yes<|Cells.lit rfl rfl<|Br.yes<|Br.yes<|Cells.lit rfl rfl<|Br.yes<|Br.yes<|CallQ.rd V.bool (by first | rfl | simp only [V.fz,V.up,Ab,Ad,slr] | simp [Aa,V.fz,fzL,V.up,upL,Ab,Ac,Ad,slr]) (λ_=>rfl) h (λr h=>Av1 h) (λr9 h=> ?_)
  refine Br.yes<|Br.ob h (λp10 h=> ?_) (λp10 h=> ?_)
  ·refine Len.map<|Ask.o h λp11 h=>SetKids.one (λ_=>⟨rfl,rfl⟩) (true) (by rfl) (by first | omega | (simp [Ap] at * <;> omega))<|Ask.o h λp12 h=> ?_
   cases h;exact ⟨rfl,rfl⟩
  refine Ask.o h λp13 h=> ?_
  cases h;exact ⟨rfl,rfl⟩
 cases h;exact ⟨rfl,rfl⟩
noncomputable def Ef (a0:SAlgebra):(Int×Bool×(List Bool))->Option ((Int×Bool×(List Bool)) ⊕ (Bool×(List Bool))):=λ(x14,x5',x47')=>
 if x14<(↑a0.Ops.length:Int) then
 ask ((0:Int)<=x14/\x14<(↑a0.Ops.length:Int)) <|
 (Ak (Ec a0 x14) ((0:Int),x5',x47')).bind λ(q14_5,q14_47)=>
 ask (InI (x14+(1:Int))) <|
 some (.inl (x14+(1:Int),q14_5,q14_47))
 else
 some (.inr (x5',x47'))
def Ls (a0:SAlgebra):(Int×Bool×(List Bool))->St:=λs=>[(14,A.val (Af s.1)),(13,A.val (Af ((↑a0.Ops.length:Int)))),(12,A.val ((slr false 2 (Ay false)) (a0.Ops))),(5,A.val (V.bool s.2.1)),(2,A.val ((rP true (Ag false)) (a0))),(1,A.ref 47 []),(47,A.val ((slr true 1 V.bool) s.2.2))]
def Rt (a0:SAlgebra):(Bool×(List Bool))->Tgt
 | s=>((Ex.exit 2),[5,2,1,47],[(5,A.val (V.bool s.1)),(2,A.val ((rP true (Ag false)) (a0))),(1,A.ref 47 []),(47,A.val ((slr true 1 V.bool) s.2))])
theorem Adx {a0:SAlgebra} (s:(Int×Bool×(List Bool))) (o:(Int×Bool×(List Bool)) ⊕ (Bool×(List Bool))) (h:Ef a0 s=some o):vc Tryz.prog Sg (Cd [14,13,12,5,2,1,47] (Ls a0) (Rt a0) o) (Ls a0 s):=by
 obtain ⟨x14,x5',x47'⟩:=s;unfold Ef at h;try dsimp only at h
 refine Br.od h (λp2 h=> ?_) (λp2 h=> ?_)
 ·refine Len.map<|Ask.o h λp3 h=>Elem.o (by first | omega | (simp [Ap] at * <;> omega))<|SetKids.lit rfl<|Cells.lit rfl rfl<|Len.map<|LoopQ.o [21,20,19,7,14,13,12,5,2,1,47] (Kw a0 x14) (So a0 x14) h (λs o h=>Ad1 s o h) (by rfl) (λ_=>rfl) ?_
  rintro ⟨q14_5,q14_47⟩ h;try dsimp only at h
  refine Ask.o h λp15 h=> ?_
  cases h;exact ⟨rfl,rfl⟩
 cases h;exact ⟨rfl,rfl⟩
noncomputable def Ft (a0:SAlgebra):(Bool×(List Bool))->Option ((Bool×(List Bool)) ⊕ (List Bool)):=λ(x5,x47)=>
 if (x5)=true then
 (Ak (Ef a0) ((0:Int),false,x47)).bind λ(q16_5,q16_47)=>
 some (.inl (q16_5,q16_47))
 else
 some (.inr x47)
def Kq (a0:SAlgebra):(Bool×(List Bool))->St:=λs=>[(5,A.val (V.bool s.1)),(2,A.val ((rP true (Ag false)) (a0))),(1,A.ref 47 []),(47,A.val ((slr true 1 V.bool) s.2))]
def R0 (_a0:SAlgebra):(List Bool)->Tgt
 | s=>((Ex.exit 0),[1,47],[(1,A.ref 47 []),(47,A.val ((slr true 1 V.bool) s))])
theorem Aec {a0:SAlgebra} (s:(Bool×(List Bool))) (o:(Bool×(List Bool)) ⊕ (List Bool)) (h:Ft a0 s=some o):vc Tryz.prog R8 (Cd [5,2,1,47] (Kq a0) (R0 a0) o) (Kq a0 s):=by
 obtain ⟨x5,x47⟩:=s;unfold Ft at h;try dsimp only at h
 refine Br.ob h (λp1 h=> ?_) (λp1 h=> ?_)
 ·refine Cells.lit rfl rfl<|Len.map<|LoopQ.o [14,13,12,5,2,1,47] (Ls a0) (Rt a0) h (λs o h=>Adx s o h) (by rfl) (λ_=>rfl) ?_
  rintro ⟨q16_5,q16_47⟩ h;try dsimp only at h
  cases h;exact ⟨rfl,rfl⟩
 cases h;exact ⟨rfl,rfl⟩
noncomputable def Ho (a0:SAlgebra) (have0:(List Bool)):Option (List Bool):=
 (Ak (Ft a0) (true,have0)).bind λq17_47=>
 some q17_47
theorem Ai6 {a0:SAlgebra} {have0:(List Bool)} {v:(List Bool)} (h:Ho a0 have0=some v):J7 Tryz.prog Om [(Ag false) a0,(slr true 1 V.bool) have0] ((slr true 1 V.bool) v) 1 V.dead:=by
 refine Ij Ahz (Nat.le_of_ble_eq_true rfl) ?_;unfold Ho at h;refine LoopQ.o [5,2,1,47] (Kq a0) (R0 a0) h (λs o h=>Aec s o h) (by rfl) (λ_=>rfl) ?_;rintro q17_47 h;try dsimp only at h
 cases h;exact ⟨(by rfl),(by rfl)⟩
noncomputable def C5 (n0:Int) (p0:List Int):Int->Option (Int ⊕ (Unit ⊕ Unit)):=λx5=>
 if x5<n0 then
 ask ((0:Int)<=x5/\x5<(↑p0.length:Int)) <|
 (Ht (nth p0 x5.toNat) ((0:Int)) (x5)).bind λr4=>
 if (r4)=true then
 ask ((0:Int)<=x5/\x5<(↑p0.length:Int)) <|
 ask ((0:Int)<=nth p0 x5.toNat/\nth p0 x5.toNat<(↑p0.length:Int)) <|
 ask ((0:Int)<=x5/\x5<(↑p0.length:Int)) <|
 if nth p0 (nth p0 x5.toNat).toNat≠nth p0 x5.toNat then
 some (.inr (.inl ()))
 else
 ask (InI (x5+(1:Int))) <|
 some (.inl (x5+(1:Int)))
 else
 some (.inr (.inl ()))
 else
 some (.inr (.inr ()))
def J9 (n0:Int) (p0:List Int):Int->St:=λs=>[(5,A.val (Af s)),(0,A.val (Af (n0))),(1,A.val ((slr false 1 Af) (p0)))]
def Py (_n0:Int) (_p0:List Int):(Unit ⊕ Unit)->Tgt
 | (.inl _s)=>(Ex.ret,[4],[(4,A.val (V.bool (false)))])
 | (.inr _s)=>((Ex.exit 0),[],[])
theorem Acp {n0:Int} {p0:List Int} (x5:Int) (o:Int ⊕ (Unit ⊕ Unit)) (h:C5 n0 p0 x5=some o):vc Tryz.prog P0 (Cd [5,0,1] (J9 n0 p0) (Py n0 p0) o) (J9 n0 p0 x5):=by
 unfold C5 at h;try dsimp only at h
 refine Br.od h (λp2 h=> ?_) (λp2 h=> ?_)
 ·refine Len.map<|Ask.o h λp3 h=>Elem.o (by first | omega | (simp [Ap] at * <;> omega))<|CallP.o V.bool (by rfl) h (λr h=>Si h) (λr4 h=> ?_)
  refine Br.flip<|Br.ob h (λp5 h=> ?_) (λp5 h=> ?_)
  ·refine Br.no<|Br.no<|Br.no<|Len.map<|Ask.o h λp6 h=>Elem.o (by first | omega | (simp [Ap] at * <;> omega))<|Br.no<|Br.no<|Len.map<|Ask.o h λp7 h=>Elem.o (by first | omega | (simp [Ap] at * <;> omega))<|Br.no<|Br.no<|Br.no<|Br.no<|Len.map<|Ask.o h λp8 h=>Elem.o (by first | omega | (simp [Ap] at * <;> omega))<|Br.no<|Br.no<|Br.no<|Br.on h (λp9 h=> ?_) (λp9 h=> ?_)
   ·cases h;exact ⟨rfl,rfl⟩
   refine Ask.o h λp10 h=> ?_
   cases h;exact ⟨rfl,rfl⟩
  refine Br.yes<|Br.yes<|Br.yes<|Br.yes<|Br.yes<|Br.yes<|Br.yes<|Br.yes<|Br.yes<|Br.yes<|Br.yes<|Br.yes<|Br.yes ?_
  cases h;exact ⟨rfl,rfl⟩
 cases h;exact ⟨rfl,rfl⟩
noncomputable def Ha (n0:Int) (p0:(List Int)):Option Bool:=
 if (↑p0.length:Int)≠n0 then
 some false
 else
 (Ak (C5 n0 p0) (0:Int)).bind λt=>match t with
 | (.inl _)=>(some false)
 | (.inr _)=>(some true)
theorem Agc {n0:Int} {p0:(List Int)} {v:Bool} (h:Ha n0 p0=some v):Ret Tryz.prog M8 [Af n0,(slr false 1 Af) p0] (V.bool v):=by
 refine A4 Agl (Nat.le_of_ble_eq_true rfl) ?_;unfold Ha at h;refine Len.map<|Br.on h (λp1 h=> ?_) (λp1 h=> ?_)
 ·cases h;exact (by rfl)
 refine LoopQ.o [5,0,1] (J9 n0 p0) (Py n0 p0) h (λs o h=>Acp s o h) (by rfl) (by rintro (_ | _)<;>rfl) ?_;rintro (⟨⟩ | ⟨⟩) h
 ·try dsimp only at h
  cases h;exact (by rfl)
 try dsimp only at h
 cases h;exact (by rfl)
end Go.Proofs.YtmkgjnphianalaaGreat.Ax
