/-
 What the functions compute, as functions on plain data, and that the program does compute it; written by program.
-/
import Derived.Test.YtmkgjnphianalaaCode
import Derived.Test.YtmkgjnphianalaaG1
namespace Go.Proofs.Ytmkgjnphianalaa.Ax
open Go
set_option maxRecDepth 100000
set_option maxHeartbeats 4000000
noncomputable def Hb (in0:List Bool):(Int×(List Int))→Option ((Int×(List Int)) ⊕ (List Int)):=fun (x4,x3)=>
 if x4<(↑in0.length:Int) then
 ask ((0:Int)≤x4∧x4<(↑in0.length:Int)) <|
 if (nth in0 x4.toNat)=true then
 ask ((x3).length+([x4]).length≤LIM) <|
 ask (InI (x4+(1:Int))) <|
 some (.inl (x4+(1:Int),x3++[x4]))
 else
 ask (InI (x4+(1:Int))) <|
 some (.inl (x4+(1:Int),x3))
 else
 some (.inr x3)
def Ny (in0:List Bool):(Int×(List Int))→St:=fun s=>[(4,A.val (Ag s.1)),(3,A.val ((slr true 1 Ag) s.2)),(0,A.val ((slr false 1 V.bool) (in0)))]
def Vv (_in0:List Bool):(List Int)→Tgt
 | s=>((Ex.exit 0),[3],[(3,A.val ((slr true 1 Ag) s))])
theorem Agv {in0:List Bool} (s:(Int×(List Int))) (o:(Int×(List Int)) ⊕ (List Int)) (h:Hb in0 s=some o):vc Try.prog Vc (C1 [4,3,0] (Ny in0) (Vv in0) o) (Ny in0 s):=by
 obtain ⟨x4,x3⟩:=s
 unfold Hb at h
 try dsimp only at h
 refine Len.map ?_
 refine Br.od h (fun p1 h=> ?_) (fun p1 h=> ?_)
 ·refine Len.map ?_
  refine Ask.o h fun p2 h=> ?_
  refine Elem.o (by first | omega | (simp [Aw] at * <;> omega)) ?_
  refine Br.ob h (fun p3 h=> ?_) (fun p3 h=> ?_)
  ·refine BslQ.o Ag [x4] (by exact fun _=>⟨rfl,rfl⟩) (by first | rfl | (simp only [Aa,V.fz,fzL,V.up,upL,Ab,Ac,Ad,slr,List.cons_append,List.nil_append];done) | simp [Aa,V.fz,fzL,V.up,upL,Ab,Ac,Ad,slr]) ?_
   refine NoOwn.o (fun _=>rfl) ?_
   refine AppQ.o (m:=1) Ag (by exact fun _=>⟨rfl,rfl⟩) (x3) ([x4]) (by rfl) (by rfl) h fun h=> ?_
   refine Ask.o h fun p4 h=> ?_
   cases h;exact ⟨rfl,rfl⟩
  refine Ask.o h fun p5 h=> ?_
  cases h;exact ⟨rfl,rfl⟩
 cases h;exact ⟨rfl,rfl⟩
noncomputable def K2 (in0:(List Bool)):Option (List Int):=
 (Al (Hb in0) ((0:Int),Ao Int)).bind fun q6_3=>
 some q6_3
theorem Aog {in0:(List Bool)} {v:(List Int)} (h:K2 in0=some v):Ret Try.prog Uo [(slr false 1 V.bool) in0] ((slr true 1 Ag) v):=by
 refine Bb Aoo (Nat.le_of_ble_eq_true rfl) ?_
 unfold K2 at h
 refine BslQ.o Ag (Ao Int) (by exact fun _=>⟨rfl,rfl⟩) (by first | rfl | (simp only [Aa,V.fz,fzL,V.up,upL,Ab,Ac,Ad,slr,List.cons_append,List.nil_append];done) | simp [Aa,V.fz,fzL,V.up,upL,Ab,Ac,Ad,slr]) ?_
 refine LoopQ.o [4,3,0] (Ny in0) (Vv in0) h (fun s o h=>Agv s o h) (by rfl) (fun _=>rfl) ?_
 rintro q6_3 h
 try dsimp only at h
 cases h;exact (by rfl)
noncomputable def Et (a0:List (List Int)) (b0:List (List Int)):Int→Option (Int ⊕ (Unit ⊕ Unit)):=fun x5=>
 if x5<(↑a0.length:Int) then
 ask ((0:Int)≤x5∧x5<(↑a0.length:Int)) <|
 ask ((0:Int)≤x5∧x5<(↑b0.length:Int)) <|
 (D7 (nth a0 x5.toNat) (nth b0 x5.toNat)).bind fun r5=>
 if (r5)=true then
 ask (InI (x5+(1:Int))) <|
 some (.inl (x5+(1:Int)))
 else
 some (.inr (.inl ()))
 else
 some (.inr (.inr ()))
def N1 (a0:List (List Int)) (b0:List (List Int)):Int→St:=fun s=>[(5,A.val (Ag s)),(0,A.val ((slr false 1 (slr false 1 Ag)) (a0))),(1,A.val ((slr false 1 (slr false 1 Ag)) (b0)))]
def Wt (_a0:List (List Int)) (_b0:List (List Int)):(Unit ⊕ Unit)→Tgt
 | (.inl _s)=>(Ex.ret,[4],[(4,A.val (V.bool (false)))])
 | (.inr _s)=>((Ex.exit 0),[],[])
theorem Af2 {a0:List (List Int)} {b0:List (List Int)} (x5:Int) (o:Int ⊕ (Unit ⊕ Unit)) (h:Et a0 b0 x5=some o):vc Try.prog Vz (C1 [5,0,1] (N1 a0 b0) (Wt a0 b0) o) (N1 a0 b0 x5):=by
 unfold Et at h
 try dsimp only at h
 refine Len.map ?_
 refine Br.od h (fun p2 h=> ?_) (fun p2 h=> ?_)
 ·refine Len.map ?_
  refine Ask.o h fun p3 h=> ?_
  refine Elem.o (by first | omega | (simp [Aw] at * <;> omega)) ?_
  refine Len.map ?_
  refine Ask.o h fun p4 h=> ?_
  refine Elem.o (by first | omega | (simp [Aw] at * <;> omega)) ?_
  refine CallQ.o V.bool (by rfl) h (fun r h=>My h) (fun r5 h=> ?_)
  refine Br.flip ?_
  refine Br.ob h (fun p6 h=> ?_) (fun p6 h=> ?_)
  ·refine Ask.o h fun p7 h=> ?_
   cases h;exact ⟨rfl,rfl⟩
  cases h;exact ⟨rfl,rfl⟩
 cases h;exact ⟨rfl,rfl⟩
noncomputable def Kx (a0:(List (List Int))) (b0:(List (List Int))):Option Bool:=
 if (↑a0.length:Int)≠(↑b0.length:Int) then
 some false
 else
 (Al (Et a0 b0) (0:Int)).bind fun t=>match t with
 | (.inl _)=>(some false)
 | (.inr _)=>(some true)
theorem Anm {a0:(List (List Int))} {b0:(List (List Int))} {v:Bool} (h:Kx a0 b0=some v):Ret Try.prog Ud [(slr false 1 (slr false 1 Ag)) a0,(slr false 1 (slr false 1 Ag)) b0] (V.bool v):=by
 refine Bb Amx (Nat.le_of_ble_eq_true rfl) ?_
 unfold Kx at h
 refine Len.map ?_
 refine Len.map ?_
 refine Br.on h (fun p1 h=> ?_) (fun p1 h=> ?_)
 ·cases h;exact (by rfl)
 refine LoopQ.o [5,0,1] (N1 a0 b0) (Wt a0 b0) h (fun s o h=>Af2 s o h) (by rfl) (by rintro (_ | _)<;>rfl) ?_
 rintro (⟨⟩ | ⟨⟩) h
 ·try dsimp only at h
  cases h;exact (by rfl)
 try dsimp only at h
 cases h;exact (by rfl)
noncomputable def G4 (lists0:List (List Int)) (l0:List Int):Int→Option (Int ⊕ (Unit ⊕ Unit)):=fun x5=>
 if x5<(↑lists0.length:Int) then
 ask ((0:Int)≤x5∧x5<(↑lists0.length:Int)) <|
 (D7 (nth lists0 x5.toNat) (l0)).bind fun r3=>
 if (r3)=true then
 some (.inr (.inl ()))
 else
 ask (InI (x5+(1:Int))) <|
 some (.inl (x5+(1:Int)))
 else
 some (.inr (.inr ()))
def Ue (lists0:List (List Int)) (l0:List Int):Int→St:=fun s=>[(5,A.val (Ag s)),(0,A.val ((slr false 1 (slr false 1 Ag)) (lists0))),(1,A.val ((slr false 1 Ag) (l0)))]
def Abz (_lists0:List (List Int)) (_l0:List Int):(Unit ⊕ Unit)→Tgt
 | (.inl _s)=>(Ex.ret,[4],[(4,A.val (V.bool (true)))])
 | (.inr _s)=>((Ex.exit 0),[],[])
theorem Am5 {lists0:List (List Int)} {l0:List Int} (x5:Int) (o:Int ⊕ (Unit ⊕ Unit)) (h:G4 lists0 l0 x5=some o):vc Try.prog Abw (C1 [5,0,1] (Ue lists0 l0) (Abz lists0 l0) o) (Ue lists0 l0 x5):=by
 unfold G4 at h
 try dsimp only at h
 refine Len.map ?_
 refine Br.od h (fun p1 h=> ?_) (fun p1 h=> ?_)
 ·refine Len.map ?_
  refine Ask.o h fun p2 h=> ?_
  refine Elem.o (by first | omega | (simp [Aw] at * <;> omega)) ?_
  refine CallQ.o V.bool (by rfl) h (fun r h=>My h) (fun r3 h=> ?_)
  refine Br.ob h (fun p4 h=> ?_) (fun p4 h=> ?_)
  ·cases h;exact ⟨rfl,rfl⟩
  refine Ask.o h fun p5 h=> ?_
  cases h;exact ⟨rfl,rfl⟩
 cases h;exact ⟨rfl,rfl⟩
noncomputable def Lk (lists0:(List (List Int))) (l0:(List Int)):Option Bool:=
 (Al (G4 lists0 l0) (0:Int)).bind fun t=>match t with
 | (.inl _)=>(some true)
 | (.inr _)=>(some false)
theorem Ake {lists0:(List (List Int))} {l0:(List Int)} {v:Bool} (h:Lk lists0 l0=some v):Ret Try.prog W4 [(slr false 1 (slr false 1 Ag)) lists0,(slr false 1 Ag) l0] (V.bool v):=by
 refine Bb Av7 (Nat.le_of_ble_eq_true rfl) ?_
 unfold Lk at h
 refine LoopQ.o [5,0,1] (Ue lists0 l0) (Abz lists0 l0) h (fun s o h=>Am5 s o h) (by rfl) (by rintro (_ | _)<;>rfl) ?_
 rintro (⟨⟩ | ⟨⟩) h
 ·try dsimp only at h
  cases h;exact (by rfl)
 try dsimp only at h
 cases h;exact (by rfl)
noncomputable def Cw (a0:SAlgebra) (b0:SAlgebra) (x17:Int):(Int×Bool×(List Int))→Option ((Int×Bool×(List Int)) ⊕ ((List Int) ⊕ (Bool×(List Int)))):=fun (x25,x7'',x72'')=>
 if x25<(↑(nth a0.Ops x17.toNat).Table.length:Int) then
 ask ((0:Int)≤x25∧x25<(↑(nth a0.Ops x17.toNat).Table.length:Int)) <|
 (Ih (x25) ((nth a0.Ops x17.toNat).Arity) (a0.Size) (x72'')).bind fun r6=>
 if (r6)=true then
 ask ((0:Int)≤x17∧x17<(↑b0.Ops.length:Int)) <|
 (Dk (x25) ((nth a0.Ops x17.toNat).Arity) (a0) (b0) (x72'')).bind fun r9=>
 ask ((0:Int)≤r9∧r9<(↑(nth b0.Ops x17.toNat).Table.length:Int)) <|
 ask ((0:Int)≤nth (nth a0.Ops x17.toNat).Table x25.toNat∧nth (nth a0.Ops x17.toNat).Table x25.toNat<(↑x72''.length:Int)) <|
 if nth x72'' (nth (nth a0.Ops x17.toNat).Table x25.toNat).toNat<(0:Int) then
 ask ((0:Int)≤nth (nth a0.Ops x17.toNat).Table x25.toNat∧nth (nth a0.Ops x17.toNat).Table x25.toNat<(↑x72''.length:Int)) <|
 ask (InI (x25+(1:Int))) <|
 some (.inl (x25+(1:Int),true,x72''.set (nth (nth a0.Ops x17.toNat).Table x25.toNat).toNat (nth (nth b0.Ops x17.toNat).Table r9.toNat)))
 else
 ask ((0:Int)≤nth (nth a0.Ops x17.toNat).Table x25.toNat∧nth (nth a0.Ops x17.toNat).Table x25.toNat<(↑x72''.length:Int)) <|
 if nth x72'' (nth (nth a0.Ops x17.toNat).Table x25.toNat).toNat≠nth (nth b0.Ops x17.toNat).Table r9.toNat then
 some (.inr (.inl x72''))
 else
 ask (InI (x25+(1:Int))) <|
 some (.inl (x25+(1:Int),x7'',x72''))
 else
 ask (InI (x25+(1:Int))) <|
 some (.inl (x25+(1:Int),x7'',x72''))
 else
 some (.inr (.inr (x7'',x72'')))
def L0 (a0:SAlgebra) (b0:SAlgebra) (x17:Int):(Int×Bool×(List Int))→St:=fun s=>[(25,A.val (Ag s.1)),(24,A.val (Ag ((↑(nth a0.Ops x17.toNat).Table.length:Int)))),(23,A.val ((slr false 1 Ag) ((nth a0.Ops x17.toNat).Table))),(8,A.val (Ag (x17))),(9,A.val ((rP true (A9 false)) (nth a0.Ops x17.toNat))),(17,A.val (Ag (x17))),(16,A.val (Ag ((↑a0.Ops.length:Int)))),(15,A.val ((slr false 2 (A9 false)) (a0.Ops))),(7,A.val (V.bool s.2.1)),(4,A.val ((rP true (Ae false)) (b0))),(3,A.val ((rP true (Ae false)) (a0))),(2,A.ref 72 []),(72,A.val ((slr true 1 Ag) s.2.2))]
def Sw (a0:SAlgebra) (b0:SAlgebra) (x17:Int):((List Int) ⊕ (Bool×(List Int)))→Tgt
 | (.inl s)=>(Ex.ret,[6,72],[(6,A.val (V.bool (false))),(72,A.val ((slr true 1 Ag) s))])
 | (.inr s)=>((Ex.exit 4),[17,16,15,7,4,3,2,72],[(17,A.val (Ag (x17))),(16,A.val (Ag ((↑a0.Ops.length:Int)))),(15,A.val ((slr false 2 (A9 false)) (a0.Ops))),(7,A.val (V.bool s.1)),(4,A.val ((rP true (Ae false)) (b0))),(3,A.val ((rP true (Ae false)) (a0))),(2,A.ref 72 []),(72,A.val ((slr true 1 Ag) s.2))])
theorem Ac8 {a0:SAlgebra} {b0:SAlgebra} {x17:Int} (s:(Int×Bool×(List Int))) (o:(Int×Bool×(List Int)) ⊕ ((List Int) ⊕ (Bool×(List Int)))) (h:Cw a0 b0 x17 s=some o):vc Try.prog Rk (C1 [25,24,23,8,9,17,16,15,7,4,3,2,72] (L0 a0 b0 x17) (Sw a0 b0 x17) o) (L0 a0 b0 x17 s):=by
 obtain ⟨x25,x7'',x72''⟩:=s
 unfold Cw at h
 try dsimp only at h
 refine Br.od h (fun p4 h=> ?_) (fun p4 h=> ?_)
 ·refine Len.map ?_
  refine Ask.o h fun p5 h=> ?_
  refine Elem.o (by first | omega | (simp [Aw] at * <;> omega)) ?_
  refine Cells.lit rfl rfl ?_
  refine Cells.lit rfl rfl ?_
  refine CallQ.rd V.bool (by first | rfl | simp only [V.fz,V.up,Ab,Ad,slr] | simp [Aa,V.fz,fzL,V.up,upL,Ab,Ac,Ad,slr]) (fun _=>rfl) h (fun r h=>Aic h) (fun r6 h=> ?_)
  refine Br.flip ?_
  refine Br.ob h (fun p7 h=> ?_) (fun p7 h=> ?_)
  ·refine Cells.lit rfl rfl ?_
   refine Len.map ?_
   refine Ask.o h fun p8 h=> ?_
   refine Elem.o (by first | omega | (simp [Aw] at * <;> omega)) ?_
   refine Cells.lit rfl rfl ?_
   refine Cells.lit rfl rfl ?_
   refine Cells.lit rfl rfl ?_
   refine CallP.rd Ag (by first | rfl | simp only [V.fz,fzL,V.up,Ab,Ad,slr] | simp [Aa,V.fz,fzL,V.up,upL,Ab,Ac,Ad,slr]) (fun _=>rfl) h (fun r h=>Tj h) (fun r9 h=> ?_)
   refine Len.map ?_
   refine Ask.o h fun p10 h=> ?_
   refine Elem.o (by first | omega | (simp [Aw] at * <;> omega)) ?_
   refine Len.map ?_
   refine Ask.o h fun p11 h=> ?_
   refine Cells.one (fun _=>⟨rfl,rfl⟩) (by first | omega | (simp [Aw] at * <;> omega)) ?_
   refine Br.od h (fun p12 h=> ?_) (fun p12 h=> ?_)
   ·refine Len.map ?_
    refine Ask.o h fun p13 h=> ?_
    refine SetKids.one (fun _=>⟨rfl,rfl⟩) (nth (nth b0.Ops x17.toNat).Table r9.toNat) (by rfl) (by first | omega | (simp [Aw] at * <;> omega)) ?_
    refine Ask.o h fun p14 h=> ?_
    cases h;exact ⟨rfl,rfl⟩
   refine Len.map ?_
   refine Ask.o h fun p15 h=> ?_
   refine Cells.one (fun _=>⟨rfl,rfl⟩) (by first | omega | (simp [Aw] at * <;> omega)) ?_
   refine Br.on h (fun p16 h=> ?_) (fun p16 h=> ?_)
   ·cases h;exact ⟨rfl,rfl⟩
   refine Ask.o h fun p17 h=> ?_
   cases h;exact ⟨rfl,rfl⟩
  refine Ask.o h fun p18 h=> ?_
  cases h;exact ⟨rfl,rfl⟩
 cases h;exact ⟨rfl,rfl⟩
noncomputable def Cu (a0:SAlgebra) (b0:SAlgebra):(Int×Bool×(List Int))→Option ((Int×Bool×(List Int)) ⊕ ((List Int) ⊕ (Bool×(List Int)))):=fun (x17,x7',x72')=>
 if x17<(↑a0.Ops.length:Int) then
 ask ((0:Int)≤x17∧x17<(↑a0.Ops.length:Int)) <|
 (Al (Cw a0 b0 x17) ((0:Int),x7',x72')).bind fun t=>match t with
 | (.inl q19_72)=>(some (.inr (.inl q19_72)))
 | (.inr (q19_7,q19_72))=>(ask (InI (x17+(1:Int))) <|
 some (.inl (x17+(1:Int),q19_7,q19_72)))
 else
 some (.inr (.inr (x7',x72')))
def Lz (a0:SAlgebra) (b0:SAlgebra):(Int×Bool×(List Int))→St:=fun s=>[(17,A.val (Ag s.1)),(16,A.val (Ag ((↑a0.Ops.length:Int)))),(15,A.val ((slr false 2 (A9 false)) (a0.Ops))),(7,A.val (V.bool s.2.1)),(4,A.val ((rP true (Ae false)) (b0))),(3,A.val ((rP true (Ae false)) (a0))),(2,A.ref 72 []),(72,A.val ((slr true 1 Ag) s.2.2))]
def Su (a0:SAlgebra) (b0:SAlgebra):((List Int) ⊕ (Bool×(List Int)))→Tgt
 | (.inl s)=>(Ex.ret,[6,72],[(6,A.val (V.bool (false))),(72,A.val ((slr true 1 Ag) s))])
 | (.inr s)=>((Ex.exit 2),[7,4,3,2,72],[(7,A.val (V.bool s.1)),(4,A.val ((rP true (Ae false)) (b0))),(3,A.val ((rP true (Ae false)) (a0))),(2,A.ref 72 []),(72,A.val ((slr true 1 Ag) s.2))])
theorem Ack {a0:SAlgebra} {b0:SAlgebra} (s:(Int×Bool×(List Int))) (o:(Int×Bool×(List Int)) ⊕ ((List Int) ⊕ (Bool×(List Int)))) (h:Cu a0 b0 s=some o):vc Try.prog Rx (C1 [17,16,15,7,4,3,2,72] (Lz a0 b0) (Su a0 b0) o) (Lz a0 b0 s):=by
 obtain ⟨x17,x7',x72'⟩:=s
 unfold Cu at h
 try dsimp only at h
 refine Br.od h (fun p2 h=> ?_) (fun p2 h=> ?_)
 ·refine Len.map ?_
  refine Ask.o h fun p3 h=> ?_
  refine Elem.o (by first | omega | (simp [Aw] at * <;> omega)) ?_
  refine SetKids.lit rfl ?_
  refine Cells.lit rfl rfl ?_
  refine Len.map ?_
  refine LoopQ.o [25,24,23,8,9,17,16,15,7,4,3,2,72] (L0 a0 b0 x17) (Sw a0 b0 x17) h (fun s o h=>Ac8 s o h) (by rfl) (by rintro (_ | _)<;>rfl) ?_
  rintro (q19_72 | ⟨q19_7,q19_72⟩) h
  ·try dsimp only at h
   cases h;exact ⟨rfl,rfl⟩
  try dsimp only at h
  refine Ask.o h fun p20 h=> ?_
  cases h;exact ⟨rfl,rfl⟩
 cases h;exact ⟨rfl,rfl⟩
noncomputable def Cv (a0:SAlgebra) (b0:SAlgebra):(Bool×(List Int))→Option ((Bool×(List Int)) ⊕ ((List Int) ⊕ (List Int))):=fun (x7,x72)=>
 if (x7)=true then
 (Al (Cu a0 b0) ((0:Int),false,x72)).bind fun t=>match t with
 | (.inl q21_72)=>(some (.inr (.inl q21_72)))
 | (.inr (q21_7,q21_72))=>(some (.inl (q21_7,q21_72)))
 else
 some (.inr (.inr x72))
def Lx (a0:SAlgebra) (b0:SAlgebra):(Bool×(List Int))→St:=fun s=>[(7,A.val (V.bool s.1)),(4,A.val ((rP true (Ae false)) (b0))),(3,A.val ((rP true (Ae false)) (a0))),(2,A.ref 72 []),(72,A.val ((slr true 1 Ag) s.2))]
def Rt (_a0:SAlgebra) (_b0:SAlgebra):((List Int) ⊕ (List Int))→Tgt
 | (.inl s)=>(Ex.ret,[6,72],[(6,A.val (V.bool (false))),(72,A.val ((slr true 1 Ag) s))])
 | (.inr s)=>((Ex.exit 0),[72],[(72,A.val ((slr true 1 Ag) s))])
theorem Acw {a0:SAlgebra} {b0:SAlgebra} (s:(Bool×(List Int))) (o:(Bool×(List Int)) ⊕ ((List Int) ⊕ (List Int))) (h:Cv a0 b0 s=some o):vc Try.prog R4 (C1 [7,4,3,2,72] (Lx a0 b0) (Rt a0 b0) o) (Lx a0 b0 s):=by
 obtain ⟨x7,x72⟩:=s
 unfold Cv at h
 try dsimp only at h
 refine Br.ob h (fun p1 h=> ?_) (fun p1 h=> ?_)
 ·refine Cells.lit rfl rfl ?_
  refine Len.map ?_
  refine LoopQ.o [17,16,15,7,4,3,2,72] (Lz a0 b0) (Su a0 b0) h (fun s o h=>Ack s o h) (by rfl) (by rintro (_ | _)<;>rfl) ?_
  rintro (q21_72 | ⟨q21_7,q21_72⟩) h
  ·try dsimp only at h
   cases h;exact ⟨rfl,rfl⟩
  try dsimp only at h
  cases h;exact ⟨rfl,rfl⟩
 cases h;exact ⟨rfl,rfl⟩
noncomputable def Fm (a0:SAlgebra) (b0:SAlgebra) (f0:(List Int)):Option (Bool×(List Int)):=
 (Al (Cv a0 b0) (true,f0)).bind fun t=>match t with
 | (.inl q22_72)=>(some (false,q22_72))
 | (.inr q22_72)=>(some (true,q22_72))
theorem X3 {a0:SAlgebra} {b0:SAlgebra} {f0:(List Int)} {v:(Bool×(List Int))} (h:Fm a0 b0 f0=some v):H8 Try.prog Li [(Ae false) a0,(Ae false) b0,(slr true 1 Ag) f0] (V.bool v.1) 2 ((slr true 1 Ag) v.2):=by
 refine I7 Aih (Nat.le_of_ble_eq_true rfl) ?_
 unfold Fm at h
 refine LoopQ.o [7,4,3,2,72] (Lx a0 b0) (Rt a0 b0) h (fun s o h=>Acw s o h) (by rfl) (by rintro (_ | _)<;>rfl) ?_
 rintro (q22_72 | q22_72) h
 ·try dsimp only at h
  cases h;exact ⟨(by rfl),(by rfl)⟩
 try dsimp only at h
 cases h;exact ⟨(by rfl),(by rfl)⟩
noncomputable def Ig (f0:(List Int)) (n0:Int):Option (List Int):=
 (M5 (f0) (n0)).bind fun r1=>
 (K7 (r1)).bind fun r2=>
 some r2
theorem Aiu {f0:(List Int)} {n0:Int} {v:(List Int)} (h:Ig f0 n0=some v):Ret Try.prog Qn [(slr false 1 Ag) f0,Ag n0] ((slr true 1 Ag) v):=by
 refine Bb Ajc (Nat.le_of_ble_eq_true rfl) ?_
 unfold Ig at h
 refine CallQ.o (slr true 1 V.bool) (by rfl) h (fun r h=>Aqf h) (fun r1 h=> ?_)
 refine CallQ.rd (slr true 1 Ag) (by first | rfl | simp only [V.fz,Ab,slr] | simp [Aa,V.fz,fzL,V.up,upL,Ab,Ac,Ad,slr]) (fun _=>by simp [V.noFz,Bs]) h (fun r h=>And h) (fun r2 h=> ?_)
 cases h;exact (by rfl)
noncomputable def B7 (a0:SAlgebra) (b0:SAlgebra) (x10:Int):(Int×Bool×(List Int))→Option ((Int×Bool×(List Int)) ⊕ (Unit ⊕ (Bool×(List Int)))):=fun (x11,x9'',x8'')=>
 ask ((0:Int)≤x10∧x10<(↑a0.Ops.length:Int)) <|
 if x11<(↑(nth a0.Ops x10.toNat).Table.length:Int) then
 ask ((0:Int)≤x10∧x10<(↑a0.Ops.length:Int)) <|
 (Fy (a0.Size) ((nth a0.Ops x10.toNat).Arity) (x11)).bind fun r7=>
 (Il (x8'') (r7)).bind fun r8=>
 (Hv (r8) ((-1:Int))).bind fun r9=>
 if (r9)=true then
 ask (InI (x11+(1:Int))) <|
 some (.inl (x11+(1:Int),x9'',x8''))
 else
 ask ((0:Int)≤x10∧x10<(↑a0.Ops.length:Int)) <|
 ask ((0:Int)≤x11∧x11<(↑(nth a0.Ops x10.toNat).Table.length:Int)) <|
 (F9 (b0) (x10) (r8)).bind fun r14=>
 ((ask ((0:Int)≤nth (nth a0.Ops x10.toNat).Table x11.toNat∧nth (nth a0.Ops x10.toNat).Table x11.toNat<(↑x8''.length:Int)) <|
 if nth x8'' (nth (nth a0.Ops x10.toNat).Table x11.toNat).toNat≥(0:Int) then
 ask ((0:Int)≤nth (nth a0.Ops x10.toNat).Table x11.toNat∧nth (nth a0.Ops x10.toNat).Table x11.toNat<(↑x8''.length:Int)) <|
 if nth x8'' (nth (nth a0.Ops x10.toNat).Table x11.toNat).toNat≠r14 then
 some (.inl ())
 else
 some (.inr ())
 else
 some (.inr ()):Option (Unit ⊕ Unit))).bind fun t=>match t with
 | (.inl _)=>(some (.inr (.inl ())))
 | (.inr _)=>(ask ((0:Int)≤nth (nth a0.Ops x10.toNat).Table x11.toNat∧nth (nth a0.Ops x10.toNat).Table x11.toNat<(↑x8''.length:Int)) <|
 if nth x8'' (nth (nth a0.Ops x10.toNat).Table x11.toNat).toNat<(0:Int) then
 ask ((0:Int)≤nth (nth a0.Ops x10.toNat).Table x11.toNat∧nth (nth a0.Ops x10.toNat).Table x11.toNat<(↑x8''.length:Int)) <|
 ask (InI (x11+(1:Int))) <|
 some (.inl (x11+(1:Int),true,x8''.set (nth (nth a0.Ops x10.toNat).Table x11.toNat).toNat r14))
 else
 ask (InI (x11+(1:Int))) <|
 some (.inl (x11+(1:Int),x9'',x8'')))
 else
 some (.inr (.inr (x9'',x8'')))
def M7 (a0:SAlgebra) (b0:SAlgebra) (x10:Int):(Int×Bool×(List Int))→St:=fun s=>[(11,A.val (Ag s.1)),(10,A.val (Ag (x10))),(9,A.val (V.bool s.2.1)),(8,A.val ((slr true 1 Ag) s.2.2)),(4,A.val ((rP true (Ae false)) (b0))),(3,A.val ((rP true (Ae false)) (a0)))]
def S7 (a0:SAlgebra) (b0:SAlgebra) (x10:Int):(Unit ⊕ (Bool×(List Int)))→Tgt
 | (.inl _s)=>(Ex.ret,[7,6],[(7,A.val (V.bool (false))),(6,A.val ((slr true 1 Ag) (Ao Int)))])
 | (.inr s)=>((Ex.exit 4),[10,9,8,4,3],[(10,A.val (Ag (x10))),(9,A.val (V.bool s.1)),(8,A.val ((slr true 1 Ag) s.2)),(4,A.val ((rP true (Ae false)) (b0))),(3,A.val ((rP true (Ae false)) (a0)))])
theorem Ae1 {a0:SAlgebra} {b0:SAlgebra} {x10:Int} (s:(Int×Bool×(List Int))) (o:(Int×Bool×(List Int)) ⊕ (Unit ⊕ (Bool×(List Int)))) (h:B7 a0 b0 x10 s=some o):vc Try.prog Tc (C1 [11,10,9,8,4,3] (M7 a0 b0 x10) (S7 a0 b0 x10) o) (M7 a0 b0 x10 s):=by
 obtain ⟨x11,x9'',x8''⟩:=s
 unfold B7 at h
 try dsimp only at h
 refine Cells.lit rfl rfl ?_
 refine Len.map ?_
 refine Ask.o h fun p4 h=> ?_
 refine Elem.o (by first | omega | (simp [Aw] at * <;> omega)) ?_
 refine Len.map ?_
 refine Br.od h (fun p5 h=> ?_) (fun p5 h=> ?_)
 ·refine Cells.lit rfl rfl ?_
  refine Cells.lit rfl rfl ?_
  refine Len.map ?_
  refine Ask.o h fun p6 h=> ?_
  refine Elem.o (by first | omega | (simp [Aw] at * <;> omega)) ?_
  refine CallP.o (slr true 1 Ag) (by rfl) h (fun r h=>O3 h) (fun r7 h=> ?_)
  refine CallQ.rd (slr true 1 Ag) (by first | rfl | simp only [V.fz,Ab,slr] | simp [Aa,V.fz,fzL,V.up,upL,Ab,Ac,Ad,slr]) (fun _=>by simp [V.noFz,Bs]) h (fun r h=>Ajd h) (fun r8 h=> ?_)
  refine CallQ.rd V.bool (by first | rfl | simp only [V.fz,Ab,slr] | simp [Aa,V.fz,fzL,V.up,upL,Ab,Ac,Ad,slr]) (fun _=>rfl) h (fun r h=>Xt h) (fun r9 h=> ?_)
  refine Br.ob h (fun p10 h=> ?_) (fun p10 h=> ?_)
  ·refine Ask.o h fun p11 h=> ?_
   cases h;exact ⟨rfl,rfl⟩
  refine Cells.lit rfl rfl ?_
  refine Len.map ?_
  refine Ask.o h fun p12 h=> ?_
  refine Elem.o (by first | omega | (simp [Aw] at * <;> omega)) ?_
  refine Len.map ?_
  refine Ask.o h fun p13 h=> ?_
  refine Elem.o (by first | omega | (simp [Aw] at * <;> omega)) ?_
  refine Cells.lit rfl rfl ?_
  refine CallP.rd Ag (by first | rfl | simp only [V.fz,fzL,V.up,Ab,Ad,slr] | simp [Aa,V.fz,fzL,V.up,upL,Ab,Ac,Ad,slr]) (fun _=>rfl) h (fun r h=>Zr h) (fun r14 h=> ?_)
  refine CutQ.o (fun t:(Unit ⊕ Unit)=>match t with | (.inl s)=>(Ex.ret,[7,6],[(7,A.val (V.bool (false))),(6,A.val ((slr true 1 Ag) (Ao Int)))]) | (.inr s)=>(Ex.normal,[14,13,11,10,9,8,4,3],[(14,A.val (Ag (r14))),(13,A.val (Ag (nth (nth a0.Ops x10.toNat).Table x11.toNat))),(11,A.val (Ag (x11))),(10,A.val (Ag (x10))),(9,A.val (V.bool (x9''))),(8,A.val ((slr true 1 Ag) (x8''))),(4,A.val ((rP true (Ae false)) (b0))),(3,A.val ((rP true (Ae false)) (a0)))])) h ?_ ?_
  ·intro t h
   refine Len.map ?_
   refine Ask.o h fun p15 h=> ?_
   refine Cells.one (fun _=>⟨rfl,rfl⟩) (by first | omega | (simp [Aw] at * <;> omega)) ?_
   refine Br.od h (fun p16 h=> ?_) (fun p16 h=> ?_)
   ·refine Br.yes ?_
    refine Br.yes ?_
    refine Len.map ?_
    refine Ask.o h fun p17 h=> ?_
    refine Br.yes ?_
    refine Cells.one (fun _=>⟨rfl,rfl⟩) (by first | omega | (simp [Aw] at * <;> omega)) ?_
    refine Br.yes ?_
    refine Br.yes ?_
    refine Br.yes ?_
    refine Br.on h (fun p18 h=> ?_) (fun p18 h=> ?_)
    ·refine BslQ.o Ag (Ao Int) (by exact fun _=>⟨rfl,rfl⟩) (by first | rfl | (simp only [Aa,V.fz,fzL,V.up,upL,Ab,Ac,Ad,slr,List.cons_append,List.nil_append];done) | simp [Aa,V.fz,fzL,V.up,upL,Ab,Ac,Ad,slr]) ?_
     cases h;exact ⟨rfl,rfl⟩
    cases h;exact ⟨rfl,rfl⟩
   refine Br.no ?_
   refine Br.no ?_
   refine Br.no ?_
   refine Br.no ?_
   refine Br.no ?_
   refine Br.no ?_
   refine Br.no ?_
   cases h;exact ⟨rfl,rfl⟩
  rintro (⟨⟩ | ⟨⟩) h
  ·try dsimp only at h
   cases h;exact ⟨rfl,rfl⟩
  try dsimp only at h
  refine Len.map ?_
  refine Ask.o h fun p20 h=> ?_
  refine Cells.one (fun _=>⟨rfl,rfl⟩) (by first | omega | (simp [Aw] at * <;> omega)) ?_
  refine Br.od h (fun p21 h=> ?_) (fun p21 h=> ?_)
  ·refine Len.map ?_
   refine Ask.o h fun p22 h=> ?_
   refine SetKids.one (fun _=>⟨rfl,rfl⟩) (r14) (by rfl) (by first | omega | (simp [Aw] at * <;> omega)) ?_
   refine Ask.o h fun p23 h=> ?_
   cases h;exact ⟨rfl,rfl⟩
  refine Ask.o h fun p24 h=> ?_
  cases h;exact ⟨rfl,rfl⟩
 cases h;exact ⟨rfl,rfl⟩
noncomputable def B8 (a0:SAlgebra) (b0:SAlgebra):(Int×Bool×(List Int))→Option ((Int×Bool×(List Int)) ⊕ (Unit ⊕ (Bool×(List Int)))):=fun (x10,x9',x8')=>
 if x10<(↑a0.Ops.length:Int) then
 (Al (B7 a0 b0 x10) ((0:Int),x9',x8')).bind fun t=>match t with
 | (.inl _)=>(some (.inr (.inl ())))
 | (.inr (q25_9,q25_8))=>(ask (InI (x10+(1:Int))) <|
 some (.inl (x10+(1:Int),q25_9,q25_8)))
 else
 some (.inr (.inr (x9',x8')))
def Mm (a0:SAlgebra) (b0:SAlgebra):(Int×Bool×(List Int))→St:=fun s=>[(10,A.val (Ag s.1)),(9,A.val (V.bool s.2.1)),(8,A.val ((slr true 1 Ag) s.2.2)),(4,A.val ((rP true (Ae false)) (b0))),(3,A.val ((rP true (Ae false)) (a0)))]
def T9 (a0:SAlgebra) (b0:SAlgebra):(Unit ⊕ (Bool×(List Int)))→Tgt
 | (.inl _s)=>(Ex.ret,[7,6],[(7,A.val (V.bool (false))),(6,A.val ((slr true 1 Ag) (Ao Int)))])
 | (.inr s)=>((Ex.exit 2),[9,8,4,3],[(9,A.val (V.bool s.1)),(8,A.val ((slr true 1 Ag) s.2)),(4,A.val ((rP true (Ae false)) (b0))),(3,A.val ((rP true (Ae false)) (a0)))])
theorem Ae4 {a0:SAlgebra} {b0:SAlgebra} (s:(Int×Bool×(List Int))) (o:(Int×Bool×(List Int)) ⊕ (Unit ⊕ (Bool×(List Int)))) (h:B8 a0 b0 s=some o):vc Try.prog Tl (C1 [10,9,8,4,3] (Mm a0 b0) (T9 a0 b0) o) (Mm a0 b0 s):=by
 obtain ⟨x10,x9',x8'⟩:=s
 unfold B8 at h
 try dsimp only at h
 refine Cells.lit rfl rfl ?_
 refine Len.map ?_
 refine Br.od h (fun p3 h=> ?_) (fun p3 h=> ?_)
 ·refine LoopQ.o [11,10,9,8,4,3] (M7 a0 b0 x10) (S7 a0 b0 x10) h (fun s o h=>Ae1 s o h) (by rfl) (by rintro (_ | _)<;>rfl) ?_
  rintro (⟨⟩ | ⟨q25_9,q25_8⟩) h
  ·try dsimp only at h
   cases h;exact ⟨rfl,rfl⟩
  try dsimp only at h
  refine Ask.o h fun p26 h=> ?_
  cases h;exact ⟨rfl,rfl⟩
 cases h;exact ⟨rfl,rfl⟩
noncomputable def Cp (a0:SAlgebra) (b0:SAlgebra):(Bool×(List Int))→Option ((Bool×(List Int)) ⊕ (Unit ⊕ (List Int))):=fun (x9,x8)=>
 if (x9)=true then
 (Al (B8 a0 b0) ((0:Int),false,x8)).bind fun t=>match t with
 | (.inl _)=>(some (.inr (.inl ())))
 | (.inr (q27_9,q27_8))=>(some (.inl (q27_9,q27_8)))
 else
 some (.inr (.inr x8))
def Nc (a0:SAlgebra) (b0:SAlgebra):(Bool×(List Int))→St:=fun s=>[(9,A.val (V.bool s.1)),(8,A.val ((slr true 1 Ag) s.2)),(4,A.val ((rP true (Ae false)) (b0))),(3,A.val ((rP true (Ae false)) (a0)))]
def T3 (_a0:SAlgebra) (_b0:SAlgebra):(Unit ⊕ (List Int))→Tgt
 | (.inl _s)=>(Ex.ret,[7,6],[(7,A.val (V.bool (false))),(6,A.val ((slr true 1 Ag) (Ao Int)))])
 | (.inr s)=>((Ex.exit 0),[8],[(8,A.val ((slr true 1 Ag) s))])
theorem Adw {a0:SAlgebra} {b0:SAlgebra} (s:(Bool×(List Int))) (o:(Bool×(List Int)) ⊕ (Unit ⊕ (List Int))) (h:Cp a0 b0 s=some o):vc Try.prog Uc (C1 [9,8,4,3] (Nc a0 b0) (T3 a0 b0) o) (Nc a0 b0 s):=by
 obtain ⟨x9,x8⟩:=s
 unfold Cp at h
 try dsimp only at h
 refine Br.ob h (fun p2 h=> ?_) (fun p2 h=> ?_)
 ·refine LoopQ.o [10,9,8,4,3] (Mm a0 b0) (T9 a0 b0) h (fun s o h=>Ae4 s o h) (by rfl) (by rintro (_ | _)<;>rfl) ?_
  rintro (⟨⟩ | ⟨q27_9,q27_8⟩) h
  ·try dsimp only at h
   cases h;exact ⟨rfl,rfl⟩
  try dsimp only at h
  cases h;exact ⟨rfl,rfl⟩
 cases h;exact ⟨rfl,rfl⟩
noncomputable def Do (a0:SAlgebra) (b0:SAlgebra) (f0:(List Int)):Option ((List Int)×Bool):=
 (Ft (f0)).bind fun r1=>
 (Al (Cp a0 b0) (true,r1)).bind fun t=>match t with
 | (.inl _)=>(some (Ao Int,false))
 | (.inr q28_8)=>(some (q28_8,true))
theorem Sp {a0:SAlgebra} {b0:SAlgebra} {f0:(List Int)} {v:((List Int)×Bool)} (h:Do a0 b0 f0=some v):Ret Try.prog Jo [(Ae false) a0,(Ae false) b0,(slr false 1 Ag) f0] ((fun r=>V.tup [(slr true 1 Ag) r.1,V.bool r.2]) v):=by
 refine Bb Alt (Nat.le_of_ble_eq_true rfl) ?_
 unfold Do at h
 refine CallQ.o (slr true 1 Ag) (by rfl) h (fun r h=>Q4 h) (fun r1 h=> ?_)
 refine LoopQ.o [9,8,4,3] (Nc a0 b0) (T3 a0 b0) h (fun s o h=>Adw s o h) (by rfl) (by rintro (_ | _)<;>rfl) ?_
 rintro (⟨⟩ | q28_8) h
 ·try dsimp only at h
  cases h;exact (by rfl)
 try dsimp only at h
 cases h;exact (by rfl)
end Go.Proofs.Ytmkgjnphianalaa.Ax
