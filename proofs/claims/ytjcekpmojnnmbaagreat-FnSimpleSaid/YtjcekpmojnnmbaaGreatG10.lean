/-
 What the functions compute, as functions on plain data, and that the program does compute it; written by program.
-/
import Derived.Test.YtjcekpmojnnmbaaGreatCode
import Derived.Test.YtjcekpmojnnmbaaGreatSo5
import Derived.Test.YtjcekpmojnnmbaaGreatG1
import Derived.Test.YtjcekpmojnnmbaaGreatG2
import Derived.Test.YtjcekpmojnnmbaaGreatG4
import Derived.Test.YtjcekpmojnnmbaaGreatG6
import Derived.Test.YtjcekpmojnnmbaaGreatG7
import Derived.Test.YtjcekpmojnnmbaaGreatG8
import Derived.Test.YtjcekpmojnnmbaaGreatG9
namespace Go.Proofs.YtjcekpmojnnmbaaGreat.Ax
open Go
set_option maxRecDepth 100000
set_option maxHeartbeats 4000000
noncomputable def Ci (a0:SAlgebra) (x5:Int):(Int×(List (List Int)))→Option ((Int×(List (List Int))) ⊕ (List (List Int))):=fun (x6,x4')=>
 if x6<a0.Size then
 (Fo (a0) ([(x5,x6)])).bind fun r4=>
 ask ((x4').length+([r4]).length≤LIM) <|
 ask (InI (x6+(1:Int))) <|
 some (.inl (x6+(1:Int),x4'++[r4]))
 else
 some (.inr x4')
def Gx (a0:SAlgebra) (x5:Int):(Int×(List (List Int)))→St:=fun s=>[(6,A.val (Af s.1)),(5,A.val (Af (x5))),(4,A.val ((slr true 1 (slr true 1 Af)) s.2)),(1,A.val ((rP true (Ai false)) (a0)))]
def Kj (a0:SAlgebra) (x5:Int):(List (List Int))→Tgt
 | s=>((Ex.exit 2),[5,4,1],[(5,A.val (Af (x5))),(4,A.val ((slr true 1 (slr true 1 Af)) s)),(1,A.val ((rP true (Ai false)) (a0)))])
theorem Tr {a0:SAlgebra} {x5:Int} (s:(Int×(List (List Int)))) (o:(Int×(List (List Int))) ⊕ (List (List Int))) (h:Ci a0 x5 s=some o):vc Tryz.prog Jt (Dl [6,5,4,1] (Gx a0 x5) (Kj a0 x5) o) (Gx a0 x5 s):=by
 obtain ⟨x6,x4'⟩:=s
 unfold Ci at h
 try dsimp only at h
 refine Cells.lit rfl rfl<|Br.od h (fun p3 h=> ?_) (fun p3 h=> ?_)
 ·refine Cells.lit rfl rfl<|BslQ.o (rA2 Af) ([(x5,x6)]) (by exact fun _=>⟨rfl,rfl⟩) (by first | rfl | (simp only [Aa,V.fz,fzL,V.up,upL,Ab,Ac,Ad,slr,List.cons_append,List.nil_append];done) | simp [Aa,V.fz,fzL,V.up,upL,Ab,Ac,Ad,slr])<|CallQ.rd (slr true 1 Af) (by rfl) (fun _=>by simp [V.noFz,Bo]) h (fun r h=>Zm h) (fun r4 h=> ?_)
  refine BslQ.o (slr true 1 Af) [r4] (by exact fun _=>⟨rfl,rfl⟩) (by first | rfl | (simp only [Aa,V.fz,fzL,V.up,upL,Ab,Ac,Ad,slr,List.cons_append,List.nil_append];done) | simp [Aa,V.fz,fzL,V.up,upL,Ab,Ac,Ad,slr])<|NoOwn.own rfl<|AppQ.o (m:=1) (slr true 1 Af) (by exact fun _=>⟨rfl,rfl⟩) (x4') ([r4]) (by rfl) (by rfl) h fun h=>Ask.o h fun p5 h=> ?_
  cases h;exact ⟨rfl,rfl⟩
 cases h;exact ⟨rfl,rfl⟩
noncomputable def De (a0:SAlgebra):(Int×(List (List Int)))→Option ((Int×(List (List Int))) ⊕ (List (List Int))):=fun (x5,x4)=>
 if x5<a0.Size then
 ask (InI (x5+(1:Int))) <|
 (Al (Ci a0 x5) (x5+(1:Int),x4)).bind fun q6_4=>
 ask (InI (x5+(1:Int))) <|
 some (.inl (x5+(1:Int),q6_4))
 else
 some (.inr x4)
def G4 (a0:SAlgebra):(Int×(List (List Int)))→St:=fun s=>[(5,A.val (Af s.1)),(4,A.val ((slr true 1 (slr true 1 Af)) s.2)),(1,A.val ((rP true (Ai false)) (a0)))]
def Kg (a0:SAlgebra):(List (List Int))→Tgt
 | s=>((Ex.exit 0),[4,1],[(4,A.val ((slr true 1 (slr true 1 Af)) s)),(1,A.val ((rP true (Ai false)) (a0)))])
theorem Tv {a0:SAlgebra} (s:(Int×(List (List Int)))) (o:(Int×(List (List Int))) ⊕ (List (List Int))) (h:De a0 s=some o):vc Tryz.prog J3 (Dl [5,4,1] (G4 a0) (Kg a0) o) (G4 a0 s):=by
 obtain ⟨x5,x4⟩:=s
 unfold De at h
 try dsimp only at h
 refine Cells.lit rfl rfl<|Br.od h (fun p1 h=> ?_) (fun p1 h=> ?_)
 ·refine Ask.o h fun p2 h=>LoopQ.o [6,5,4,1] (Gx a0 x5) (Kj a0 x5) h (fun s o h=>Tr s o h) (by rfl) (fun _=>rfl) ?_
  rintro q6_4 h
  try dsimp only at h
  refine Ask.o h fun p7 h=> ?_
  cases h;exact ⟨rfl,rfl⟩
 cases h;exact ⟨rfl,rfl⟩
noncomputable def Cm (q8_4:List (List Int)) (x9:Int):(Int×(List (ByteArray×Bool))×(List (List Int)))→Option ((Int×(List (ByteArray×Bool))×(List (List Int))) ⊕ (Unit ⊕ ((List (ByteArray×Bool))×(List (List Int))))):=fun (x56,x8',x7')=>
 if x56<(↑q8_4.length:Int) then
 ask ((0:Int)≤x56∧x56<(↑q8_4.length:Int)) <|
 ask ((0:Int)≤x9∧x9<(↑x7'.length:Int)) <|
 (N8 (nth x7' x9.toNat) (nth q8_4 x56.toNat)).bind fun r16=>
 (Je (r16)).bind fun r17=>
 if ((Fu x8' r17).getD false)=true then
 if (↑x7'.length:Int)>(200:Int) then
 some (.inr (.inl ()))
 else
 ask (InI (x56+(1:Int))) <|
 some (.inl (x56+(1:Int),x8',x7'))
 else
 ask ((x7').length+([r16]).length≤LIM) <|
 if (↑(x7'++[r16]).length:Int)>(200:Int) then
 some (.inr (.inl ()))
 else
 ask (InI (x56+(1:Int))) <|
 some (.inl (x56+(1:Int),Jx x8' r17 true,x7'++[r16]))
 else
 some (.inr (.inr (x8',x7')))
def Gz (q8_4:List (List Int)) (x9:Int):(Int×(List (ByteArray×Bool))×(List (List Int)))→St:=fun s=>[(56,A.val (Af s.1)),(55,A.val (Af ((↑q8_4.length:Int)))),(54,A.ref 4 []),(9,A.val (Af (x9))),(8,A.val ((rMp true Lf.bool) s.2.1)),(7,A.val ((slr true 1 (slr true 1 Af)) s.2.2)),(4,A.val ((slr true 1 (slr true 1 Af)) (q8_4)))]
def Jr (q8_4:List (List Int)) (x9:Int):(Unit ⊕ ((List (ByteArray×Bool))×(List (List Int))))→Tgt
 | (.inl _s)=>(Ex.ret,[3,2],[(3,A.val (V.bool (false))),(2,A.val ((slr true 1 (slr true 1 Af)) (Aw (List Int))))])
 | (.inr s)=>((Ex.exit 6),[9,8,7,4],[(9,A.val (Af (x9))),(8,A.val ((rMp true Lf.bool) s.1)),(7,A.val ((slr true 1 (slr true 1 Af)) s.2)),(4,A.val ((slr true 1 (slr true 1 Af)) (q8_4)))])
theorem Tc {q8_4:List (List Int)} {x9:Int} (s:(Int×(List (ByteArray×Bool))×(List (List Int)))) (o:(Int×(List (ByteArray×Bool))×(List (List Int))) ⊕ (Unit ⊕ ((List (ByteArray×Bool))×(List (List Int))))) (h:Cm q8_4 x9 s=some o):vc Tryz.prog Kf (Dl [56,55,54,9,8,7,4] (Gz q8_4 x9) (Jr q8_4 x9) o) (Gz q8_4 x9 s):=by
 obtain ⟨x56,x8',x7'⟩:=s
 unfold Cm at h
 try dsimp only at h
 refine Br.od h (fun p13 h=> ?_) (fun p13 h=> ?_)
 ·refine Len.map<|Ask.o h fun p14 h=>Cells.one (fun _=>⟨rfl,rfl⟩) (by first | omega | (simp [Ap] at * <;> omega))<|Len.map<|Ask.o h fun p15 h=>Cells.one (fun _=>⟨rfl,rfl⟩) (by first | omega | (simp [Ap] at * <;> omega))<|Kid.one (fun _=>⟨rfl,rfl⟩) (by first | omega | (simp [Ap] at * <;> omega))<|Kid.one (fun _=>⟨rfl,rfl⟩) (by first | omega | (simp [Ap] at * <;> omega))<|CallQ.rd (slr true 1 Af) (by first | rfl | simp only [Aa,V.fz,Ab,slr] | simp [Aa,V.fz,fzL,V.up,upL,Ab,Ac,Ad,slr]) (fun _=>by simp [V.noFz,Bo]) h (fun r h=>As6 h) (fun r16 h=> ?_)
  refine CallQ.rd V.str (by first | rfl | simp only [V.fz,Ab,slr] | simp [Aa,V.fz,fzL,V.up,upL,Ab,Ac,Ad,slr]) (fun _=>rfl) h (fun r h=>Ad1 h) (fun r17 h=> ?_)
  refine LkQ.one Lf.bool V.bool x8' (false) (by rfl) rfl (fun _=>rfl)<|Br.flip<|Br.ob h (fun p18 h=> ?_) (fun p18 h=> ?_)
  ·refine Len.map<|Br.od h (fun p19 h=> ?_) (fun p19 h=> ?_)
   ·cases h;exact ⟨rfl,rfl⟩
   refine Ask.o h fun p20 h=> ?_
   cases h;exact ⟨rfl,rfl⟩
  refine MsQ.o Lf.bool x8' true (by rfl) rfl<|BslQ.o (slr true 1 Af) [r16] (by exact fun _=>⟨rfl,rfl⟩) (by first | rfl | (simp only [Aa,V.fz,fzL,V.up,upL,Ab,Ac,Ad,slr,List.cons_append,List.nil_append];done) | simp [Aa,V.fz,fzL,V.up,upL,Ab,Ac,Ad,slr])<|NoOwn.own rfl<|AppQ.o (m:=1) (slr true 1 Af) (by exact fun _=>⟨rfl,rfl⟩) (x7') ([r16]) (by rfl) (by rfl) h fun h=>Len.map<|Br.od h (fun p21 h=> ?_) (fun p21 h=> ?_)
  ·cases h;exact ⟨rfl,rfl⟩
  refine Ask.o h fun p22 h=> ?_
  cases h;exact ⟨rfl,rfl⟩
 cases h;exact ⟨rfl,rfl⟩
noncomputable def Dg (q8_4:List (List Int)):(Int×(List (ByteArray×Bool))×(List (List Int)))→Option ((Int×(List (ByteArray×Bool))×(List (List Int))) ⊕ (Unit ⊕ (List (List Int)))):=fun (x9,x8,x7)=>
 if x9<(↑x7.length:Int) then
 (Al (Cm q8_4 x9) ((0:Int),x8,x7)).bind fun t=>match t with
 | (.inl _)=>(some (.inr (.inl ())))
 | (.inr (q23_8,q23_7))=>(ask (InI (x9+(1:Int))) <|
 some (.inl (x9+(1:Int),q23_8,q23_7)))
 else
 some (.inr (.inr x7))
def G5 (q8_4:List (List Int)):(Int×(List (ByteArray×Bool))×(List (List Int)))→St:=fun s=>[(9,A.val (Af s.1)),(8,A.val ((rMp true Lf.bool) s.2.1)),(7,A.val ((slr true 1 (slr true 1 Af)) s.2.2)),(4,A.val ((slr true 1 (slr true 1 Af)) (q8_4)))]
def Jz (_q8_4:List (List Int)):(Unit ⊕ (List (List Int)))→Tgt
 | (.inl _s)=>(Ex.ret,[3,2],[(3,A.val (V.bool (false))),(2,A.val ((slr true 1 (slr true 1 Af)) (Aw (List Int))))])
 | (.inr s)=>((Ex.exit 4),[7],[(7,A.val ((slr true 1 (slr true 1 Af)) s))])
theorem Ti {q8_4:List (List Int)} (s:(Int×(List (ByteArray×Bool))×(List (List Int)))) (o:(Int×(List (ByteArray×Bool))×(List (List Int))) ⊕ (Unit ⊕ (List (List Int)))) (h:Dg q8_4 s=some o):vc Tryz.prog Ke (Dl [9,8,7,4] (G5 q8_4) (Jz q8_4) o) (G5 q8_4 s):=by
 obtain ⟨x9,x8,x7⟩:=s
 unfold Dg at h
 try dsimp only at h
 refine Len.map<|Br.od h (fun p12 h=> ?_) (fun p12 h=> ?_)
 ·refine Len.map<|LoopQ.o [56,55,54,9,8,7,4] (Gz q8_4 x9) (Jr q8_4 x9) h (fun s o h=>Tc s o h) (by rfl) (by rintro (_ | _)<;>rfl) ?_
  rintro (⟨⟩ | ⟨q23_8,q23_7⟩) h
  ·try dsimp only at h
   cases h;exact ⟨rfl,rfl⟩
  try dsimp only at h
  refine Ask.o h fun p24 h=> ?_
  cases h;exact ⟨rfl,rfl⟩
 cases h;exact ⟨rfl,rfl⟩
noncomputable def Cb (a0:SAlgebra):Option ((List (List Int))×Bool):=
 (Al (De a0) ((0:Int),Aw (List Int))).bind fun q8_4=>
 (Fb (a0.Size)).bind fun r9=>
 ask ((0:Int)≤(0:Int)∧(0:Int)<(↑[r9].length:Int)) <|
 (Je (nth [r9] (Int.toNat (0:Int)))).bind fun r11=>
 (Al (Dg q8_4) ((0:Int),Jx (Aw (ByteArray×Bool)) r11 true,[r9])).bind fun t=>match t with
 | (.inl _)=>(some (Aw (List Int),false))
 | (.inr q25_7)=>((Gl (q25_7) (fun w_0 w_1=>Bt w_0 w_1)).bind fun (_r26,u27)=>
 some (u27,true))
theorem W3 {a0:SAlgebra} {v:((List (List Int))×Bool)} (h:Cb a0=some v):Ret Tryz.prog Ig [(Ai false) a0] ((fun r=>V.tup [(slr true 1 (slr true 1 Af)) r.1,V.bool r.2]) v):=by
 refine A5 Xc (Nat.le_of_ble_eq_true rfl) ?_
 unfold Cb at h
 refine BslQ.o (slr true 1 Af) (Aw (List Int)) (by exact fun _=>⟨rfl,rfl⟩) (by first | rfl | (simp only [Aa,V.fz,fzL,V.up,upL,Ab,Ac,Ad,slr,List.cons_append,List.nil_append];done) | simp [Aa,V.fz,fzL,V.up,upL,Ab,Ac,Ad,slr])<|LoopQ.o [5,4,1] (G4 a0) (Kg a0) h (fun s o h=>Tv s o h) (by rfl) (fun _=>rfl) ?_
 rintro q8_4 h
 try dsimp only at h
 refine Cells.lit rfl rfl<|CallQ.o (slr true 1 Af) (by rfl) h (fun r h=>Sl h) (fun r9 h=> ?_)
 refine BslQ.o (slr true 1 Af) [r9] (by exact fun _=>⟨rfl,rfl⟩) (by first | rfl | (simp only [Aa,V.fz,fzL,V.up,upL,Ab,Ac,Ad,slr,List.cons_append,List.nil_append];done) | simp [Aa,V.fz,fzL,V.up,upL,Ab,Ac,Ad,slr])<|Len.map<|Ask.o h fun p10 h=>Cells.one (fun _=>⟨rfl,rfl⟩) (by first | omega | (simp [Ap] at * <;> omega))<|Kid.one (fun _=>⟨rfl,rfl⟩) (by first | omega | (simp [Ap] at * <;> omega))<|CallQ.rd V.str (by first | rfl | simp only [Aa,V.fz,Ab,slr] | simp [Aa,V.fz,fzL,V.up,upL,Ab,Ac,Ad,slr]) (fun _=>rfl) h (fun r h=>Ad1 h) (fun r11 h=> ?_)
 refine MsQ.o Lf.bool (Aw (ByteArray×Bool)) true (by rfl) rfl<|LoopQ.o [9,8,7,4] (G5 q8_4) (Jz q8_4) h (fun s o h=>Ti s o h) (by rfl) (by rintro (_ | _)<;>rfl) ?_
 rintro (⟨⟩ | q25_7) h
 ·try dsimp only at h
  cases h;exact (by rfl)
 try dsimp only at h
 refine CallQ.io (fun r=>V.tup []) (slr true 1 (slr true 1 Af)) (by rfl) rfl (fun _=>rfl) (fun _=>⟨rfl,rfl⟩) rfl h (fun r h=>Ahk (f_order0:=Ec) (c_order0:=[]) (fun w_0 w_1 v h=>Ret.cast (by rfl) (R9 h)) h) (fun r26 u27 h=> ?_)
 cases h;exact (by rfl)
noncomputable def E3 (a0:SAlgebra):(Int×(List Int))→Option ((Int×(List Int)) ⊕ (List Int)):=fun (x5,x1)=>
 if x5<a0.Size then
 (Ev (a0) (x1)).bind fun r2=>
 ask (InI (x5+(1:Int))) <|
 some (.inl (x5+(1:Int),r2))
 else
 some (.inr x1)
def L9 (a0:SAlgebra):(Int×(List Int))→St:=fun s=>[(5,A.val (Af s.1)),(2,A.val ((rP true (Ai false)) (a0))),(1,A.val ((slr false 1 Af) s.2))]
def Sb (_a0:SAlgebra):(List Int)→Tgt
 | s=>((Ex.exit 0),[1],[(1,A.val ((slr false 1 Af) s))])
theorem Acp {a0:SAlgebra} (s:(Int×(List Int))) (o:(Int×(List Int)) ⊕ (List Int)) (h:E3 a0 s=some o):vc Tryz.prog Ta (Dl [5,2,1] (L9 a0) (Sb a0) o) (L9 a0 s):=by
 obtain ⟨x5,x1⟩:=s
 unfold E3 at h
 try dsimp only at h
 refine Cells.lit rfl rfl<|Br.od h (fun p1 h=> ?_) (fun p1 h=> ?_)
 ·refine Cells.lit rfl rfl<|CallQ.o (slr true 1 Af) (by rfl) h (fun r h=>Ak9 h) (fun r2 h=> ?_)
  refine FrzQ.d (V.sl false (1:Nat) (List.map Af r2)) (by first | (simp only [slr];done) | (simp [A4,V.fz,Ab,slr];done) | (simp [A4,V.fz,fzL,Ab,slr];done))<|Ask.o h fun p3 h=> ?_
  cases h;exact ⟨rfl,rfl⟩
 cases h;exact ⟨rfl,rfl⟩
noncomputable def Ix (a0:SAlgebra) (p0:(List Int)):Option (List Int):=
 (Al (E3 a0) ((0:Int),p0)).bind fun q4_1=>
 some q4_1
theorem Aky {a0:SAlgebra} {p0:(List Int)} {v:(List Int)} (h:Ix a0 p0=some v):Ret Tryz.prog Qv [(Ai false) a0,(slr false 1 Af) p0] ((slr false 1 Af) v):=by
 refine A5 Ajq (Nat.le_of_ble_eq_true rfl) ?_
 unfold Ix at h
 refine LoopQ.o [5,2,1] (L9 a0) (Sb a0) h (fun s o h=>Acp s o h) (by rfl) (fun _=>rfl) ?_
 rintro q4_1 h
 try dsimp only at h
 cases h;exact (by rfl)
noncomputable def Ey (code0:(List Int)):Option SAlgebra:=
 (E0 ({ code:=code0,at_:=(0:Int),seed:=(0:Int) })).bind fun (r1,_u2)=>
 some r1
theorem Xv {code0:(List Int)} {v:SAlgebra} (h:Ey code0=some v):Ret Tryz.prog I4 [(slr false 1 (V.int IntKind.u8)) code0] ((Ai false) v):=by
 refine Rk X5 (Nat.le_of_ble_eq_true rfl) ?_
 unfold Ey at h
 conv=>whnf
 refine CallQ.io (Ai true) (rP true (Au false)) (by rfl) rfl (fun _=>rfl) (fun _=>⟨rfl,rfl⟩) rfl h (fun r h=>Yr h) (fun r1 u2 h=> ?_)
 conv=>whnf
 refine SetKids.lit rfl ?_
 conv=>whnf
 cases h;exact (by first | rfl | simp only [Ah,V.fz,fzL,V.up,Ab,slr] | simp [Ah,Aa,V.fz,fzL,V.up,upL,Ab,Ac,Ad,slr])
noncomputable def Bc (a0:SAlgebra):Option ((List (List Int))×Bool):=
 (Hj (a0)).bind fun r1=>
 if (r1)=true then
 (Cb (a0)).bind fun r3=>
 some r3
 else
 some (Aw (List Int),false)
theorem Eg {a0:SAlgebra} {v:((List (List Int))×Bool)} (h:Bc a0=some v):Ret Tryz.prog Cz [(Ai false) a0] ((fun r=>V.tup [(slr true 1 (slr true 1 Af)) r.1,V.bool r.2]) v):=by
 refine A5 Aay (Nat.le_of_ble_eq_true rfl) ?_
 unfold Bc at h
 refine Cells.lit rfl rfl<|CallQ.o V.bool (by rfl) h (fun r h=>Aey h) (fun r1 h=> ?_)
 refine Br.flip<|Br.ob h (fun p2 h=> ?_) (fun p2 h=> ?_)
 ·refine Cells.lit rfl rfl<|CallQ.o (fun r=>V.tup [(slr true 1 (slr true 1 Af)) r.1,V.bool r.2]) (by rfl) h (fun r h=>W3 h) (fun r3 h=> ?_)
  cases h;exact (by rfl)
 cases h;exact (by rfl)
noncomputable def Gb (a0:SAlgebra) (x0:Int) (y0:Int):Option (List Int):=
 (Cs (a0.Size)).bind fun r1=>
 (F5 (r1) (x0) (y0)).bind fun r2=>
 (Ix (a0) (r2)).bind fun r3=>
 some r3
theorem Abp {a0:SAlgebra} {x0:Int} {y0:Int} {v:(List Int)} (h:Gb a0 x0 y0=some v):Ret Tryz.prog K3 [(Ai false) a0,Af x0,Af y0] ((slr false 1 Af) v):=by
 refine A5 Abb (Nat.le_of_ble_eq_true rfl) ?_
 unfold Gb at h
 refine Cells.lit rfl rfl<|Cells.lit rfl rfl<|CallP.o (slr false 1 Af) (by rfl) h (fun r h=>Ret.frz (Gv h) (by first | rfl | simp only [V.fz,Ab,slr] | simp [Aa,V.fz,fzL,V.up,upL,Ab,Ac,Ad,slr])) (fun r1 h=> ?_)
 refine CallP.o (slr false 1 Af) (by rfl) h (fun r h=>Ret.frz (Q2 h) (by first | rfl | simp only [V.fz,Ab,slr] | simp [Aa,V.fz,fzL,V.up,upL,Ab,Ac,Ad,slr])) (fun r2 h=> ?_)
 refine CallQ.o (slr false 1 Af) (by rfl) h (fun r h=>Aky h) (fun r3 h=> ?_)
 cases h;exact (by rfl)
noncomputable def Fl (code0:(List Int)):Option SAlgebra:=
 (Ey (code0)).bind fun r1=>
 some r1
theorem Zu {code0:(List Int)} {v:SAlgebra} (h:Fl code0=some v):Ret Tryz.prog Jp [(slr false 1 (V.int IntKind.u8)) code0] ((Ai false) v):=by
 refine A5 Zl (Nat.le_of_ble_eq_true rfl) ?_
 unfold Fl at h
 refine CallQ.o (Ai false) (by rfl) h (fun r h=>Xv h) (fun r1 h=> ?_)
 refine SetKids.lit rfl ?_
 cases h;exact (by rfl)
noncomputable def Fj (a0:SAlgebra):Option (Bool×Bool):=
 (Bc (a0)).bind fun r1=>
 some ((↑r1.fst.length:Int)==(2:Int),r1.snd)
theorem Aho {a0:SAlgebra} {v:(Bool×Bool)} (h:Fj a0=some v):Ret Tryz.prog Oh [(Ai false) a0] ((fun r=>V.tup [V.bool r.1,V.bool r.2]) v):=by
 refine A5 Ag3 (Nat.le_of_ble_eq_true rfl) ?_
 unfold Fj at h
 refine Cells.lit rfl rfl<|CallQ.o (fun r=>V.tup [(slr true 1 (slr true 1 Af)) r.1,V.bool r.2]) (by rfl) h (fun r h=>Eg h) (fun r1 h=> ?_)
 refine Len.map ?_
 cases h;exact (by rfl)
noncomputable def D1 (a0:SAlgebra):Option ((List Int)×Bool):=
 (Bc (a0)).bind fun r1=>
 if (r1.snd)=true then
 (E9 (r1.fst)).bind fun t=>match t with
 | none=>(some (Aw Int,false))
 | (some r3_0)=>(ask ((0:Int)<(↑r3_0.length:Int)) <|
 some (r3_0,true))
 else
 some (Aw Int,false)
theorem Adm {a0:SAlgebra} {v:((List Int)×Bool)} (h:D1 a0=some v):Ret Tryz.prog Mb [(Ai false) a0] ((fun r=>V.tup [(slr false 1 Af) r.1,V.bool r.2]) v):=by
 refine Rk Abz (Nat.le_of_ble_eq_true rfl) ?_
 unfold D1 at h
 refine Cells.lit rfl rfl<|CallQ.o (fun r=>V.tup [(slr false 1 (slr false 1 Af)) r.1,V.bool r.2]) (by rfl) h (fun r h=>Ret.frz (Eg h) (by first | rfl | simp only [V.fz,fzL,Ab,slr] | simp [Aa,V.fz,fzL,V.up,upL,Ab,Ac,Ad,slr])) (fun r1 h=> ?_)
 refine Br.flip<|Br.ob h (fun p2 h=> ?_) (fun p2 h=> ?_)
 ·refine CallQ.o (rOl 1 Af) (by rfl) h (fun r h=>So h) (fun r3 h=> ?_)
  rcases r3 with (_ | r3_0)
  ·try dsimp only at h
   refine Br.yes<|BslQ.o Af (Aw Int) (by exact fun _=>⟨rfl,rfl⟩) (by first | rfl | (simp only [Aa,V.fz,fzL,V.up,upL,Ab,Ac,Ad,slr,List.cons_append,List.nil_append];done) | simp [Aa,V.fz,fzL,V.up,upL,Ab,Ac,Ad,slr]) ?_
   cases h;exact (by rfl)
  try dsimp only at h
  refine Len.map<|Ask.o h fun p4 h=>Br.no ?_
  cases h;exact (by rfl)
 refine BslQ.o Af (Aw Int) (by exact fun _=>⟨rfl,rfl⟩) (by first | rfl | (simp only [Aa,V.fz,fzL,V.up,upL,Ab,Ac,Ad,slr,List.cons_append,List.nil_append];done) | simp [Aa,V.fz,fzL,V.up,upL,Ab,Ac,Ad,slr]) ?_
 cases h;exact (by rfl)
noncomputable def Bu (a0:SAlgebra):Option (Int×Bool):=
 (Bc (a0)).bind fun r1=>
 if (r1.snd)=true then
 (I3 ((↑r1.fst.length:Int)) (fun w_0 w_1=>B9 w_0 w_1 (r1.fst))).bind fun r3=>
 some (r3,true)
 else
 some ((0:Int),false)
theorem Rn {a0:SAlgebra} {v:(Int×Bool)} (h:Bu a0=some v):Ret Tryz.prog Gg [(Ai false) a0] ((fun r=>V.tup [Af r.1,V.bool r.2]) v):=by
 refine A5 Rp (Nat.le_of_ble_eq_true rfl) ?_
 unfold Bu at h
 refine Cells.lit rfl rfl<|CallQ.o (fun r=>V.tup [(slr true 1 (slr true 1 Af)) r.1,V.bool r.2]) (by rfl) h (fun r h=>Eg h) (fun r1 h=> ?_)
 refine SetKids.lit rfl<|Br.flip<|Br.ob h (fun p2 h=> ?_) (fun p2 h=> ?_)
 ·refine Cells.lit rfl rfl<|Kid.lit rfl rfl<|Len.map<|CallQ.rd Af (by first | rfl | simp only [V.fz,Ab] | simp [Aa,V.fz,fzL,V.up,upL,Ab,Ac,Ad,slr]) (fun _=>rfl) h (fun r h=>Ajd (f_less0:=Dt) (c_less0:=[(rP false (slr false 1 (slr false 1 Af))) (r1.fst)]) (fun w_0 w_1 v h=>Ret.cast (by rfl) (Py h)) h) (fun r3 h=> ?_)
  cases h;exact (by rfl)
 cases h;exact (by rfl)
noncomputable def Ef (a0:SAlgebra):Option ((List (List Int))×Bool):=
 (Bc (a0)).bind fun r1=>
 if (r1.snd)=true then
 some (r1.fst,true)
 else
 some (Aw (List Int),false)
theorem W1 {a0:SAlgebra} {v:((List (List Int))×Bool)} (h:Ef a0=some v):Ret Tryz.prog H9 [(Ai false) a0] ((fun r=>V.tup [(slr true 1 (slr true 1 Af)) r.1,V.bool r.2]) v):=by
 refine A5 W9 (Nat.le_of_ble_eq_true rfl) ?_
 unfold Ef at h
 refine Cells.lit rfl rfl<|CallQ.o (fun r=>V.tup [(slr true 1 (slr true 1 Af)) r.1,V.bool r.2]) (by rfl) h (fun r h=>Eg h) (fun r1 h=> ?_)
 refine Br.flip<|Br.ob h (fun p2 h=> ?_) (fun p2 h=> ?_)
 ·cases h;exact (by rfl)
 refine BslQ.o (slr true 1 Af) (Aw (List Int)) (by exact fun _=>⟨rfl,rfl⟩) (by first | rfl | (simp only [Aa,V.fz,fzL,V.up,upL,Ab,Ac,Ad,slr,List.cons_append,List.nil_append];done) | simp [Aa,V.fz,fzL,V.up,upL,Ab,Ac,Ad,slr]) ?_
 cases h;exact (by rfl)
noncomputable def C6 (a0:SAlgebra):Option ((List (List Int))×Bool):=
 (Bc (a0)).bind fun r1=>
 if (r1.snd)=true then
 ask (0≤(1:Int)∧(1:Int)≤(↑r1.fst.length:Int)∧(↑r1.fst.length:Int)≤((r1.fst.length:Nat):Int)) <|
 (Gm (List.take ((↑r1.fst.length:Int).toNat-Int.toNat (1:Int)) (List.drop (Int.toNat (1:Int)) r1.fst)) (fun w_0 w_1=>Cw w_0 w_1)).bind fun r3=>
 some (r3,true)
 else
 some (Aw (List Int),false)
theorem Rs {a0:SAlgebra} {v:((List (List Int))×Bool)} (h:C6 a0=some v):Ret Tryz.prog Gf [(Ai false) a0] ((fun r=>V.tup [(slr true 1 (slr true 1 Af)) r.1,V.bool r.2]) v):=by
 refine A5 Rv (Nat.le_of_ble_eq_true rfl) ?_
 unfold C6 at h
 refine Cells.lit rfl rfl<|CallQ.o (fun r=>V.tup [(slr true 1 (slr true 1 Af)) r.1,V.bool r.2]) (by rfl) h (fun r h=>Eg h) (fun r1 h=> ?_)
 refine Br.flip<|Br.ob h (fun p2 h=> ?_) (fun p2 h=> ?_)
 ·refine FrzQ.d (V.sl false (1:Nat) (List.map (slr false (1:Nat) Af) r1.fst)) (by first | (simp only [slr];done) | (simp [A4,V.fz,Ab,slr];done) | (simp [A4,V.fz,fzL,Ab,slr];done))<|Len.map<|SlcQ.o (slr false 1 Af) h fun h=>CallQ.o (slr true 1 (slr true 1 Af)) (by rfl) h (fun r h=>Agq (f_beyond0:=Du) (c_beyond0:=[]) (fun w_0 w_1 v h=>Ret.cast (by rfl) (Pb h)) h) (fun r3 h=> ?_)
  cases h;exact (by rfl)
 refine BslQ.o (slr true 1 Af) (Aw (List Int)) (by exact fun _=>⟨rfl,rfl⟩) (by first | rfl | (simp only [Aa,V.fz,fzL,V.up,upL,Ab,Ac,Ad,slr,List.cons_append,List.nil_append];done) | simp [Aa,V.fz,fzL,V.up,upL,Ab,Ac,Ad,slr]) ?_
 cases h;exact (by rfl)
noncomputable def Cr (a0:SAlgebra):Option (Bool×Bool):=
 (Bc (a0)).bind fun r1=>
 if (r1.snd)=true then
 (E9 (r1.fst)).bind fun t=>match t with
 | none=>(some (true != true,r1.snd))
 | (some r3_0)=>(ask ((0:Int)<(↑r3_0.length:Int)) <|
 some (true,r1.snd))
 else
 some (false,r1.snd)
theorem Pw {a0:SAlgebra} {v:(Bool×Bool)} (h:Cr a0=some v):Ret Tryz.prog Fq [(Ai false) a0] ((fun r=>V.tup [V.bool r.1,V.bool r.2]) v):=by
 refine A5 Pp (Nat.le_of_ble_eq_true rfl) ?_
 unfold Cr at h
 refine Cells.lit rfl rfl<|CallQ.o (fun r=>V.tup [(slr false 1 (slr false 1 Af)) r.1,V.bool r.2]) (by rfl) h (fun r h=>Ret.frz (Eg h) (by first | rfl | simp only [V.fz,fzL,Ab,slr] | simp [Aa,V.fz,fzL,V.up,upL,Ab,Ac,Ad,slr])) (fun r1 h=> ?_)
 refine Br.ob h (fun p2 h=> ?_) (fun p2 h=> ?_)
 ·refine Br.yes<|CallQ.o (rOl 1 Af) (by rfl) h (fun r h=>So h) (fun r3 h=> ?_)
  rcases r3 with (_ | r3_0)
  ·try dsimp only at h
   refine Br.yes<|Br.yes ?_
   cases h;exact (by rfl)
  try dsimp only at h
  refine Br.yes<|Len.map<|Ask.o h fun p4 h=>Br.yes ?_
  cases h;exact (by rfl)
 refine Br.no<|Br.no<|Br.no ?_
 cases h;exact (by rfl)
end Go.Proofs.YtjcekpmojnnmbaaGreat.Ax
