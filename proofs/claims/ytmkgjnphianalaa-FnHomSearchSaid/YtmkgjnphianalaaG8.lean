/-
 What the functions compute, as functions on plain data, and that the program does compute it; written by program.
-/
import Derived.Test.YtmkgjnphianalaaCode
import Derived.Test.YtmkgjnphianalaaG2
import Derived.Test.YtmkgjnphianalaaG3
import Derived.Test.YtmkgjnphianalaaG4
import Derived.Test.YtmkgjnphianalaaG6
import Derived.Test.YtmkgjnphianalaaG7
namespace Go.Proofs.Ytmkgjnphianalaa.Ax
open Go
set_option maxRecDepth 100000
set_option maxHeartbeats 4000000
noncomputable def B6 (u2:List Int):(Int×(List Bool))→Option ((Int×(List Bool)) ⊕ (Unit ⊕ Unit)):=fun (x32,x5)=>
 if x32<(↑u2.length:Int) then
 ask ((0:Int)≤x32∧x32<(↑u2.length:Int)) <|
 if nth u2 x32.toNat≥(0:Int) then
 ask ((0:Int)≤nth u2 x32.toNat∧nth u2 x32.toNat<(↑x5.length:Int)) <|
 if (nth x5 (nth u2 x32.toNat).toNat)=true then
 some (.inr (.inl ()))
 else
 if nth u2 x32.toNat≥(0:Int) then
 ask ((0:Int)≤nth u2 x32.toNat∧nth u2 x32.toNat<(↑x5.length:Int)) <|
 ask (InI (x32+(1:Int))) <|
 some (.inl (x32+(1:Int),x5.set (nth u2 x32.toNat).toNat true))
 else
 ask (InI (x32+(1:Int))) <|
 some (.inl (x32+(1:Int),x5))
 else
 if nth u2 x32.toNat≥(0:Int) then
 ask ((0:Int)≤nth u2 x32.toNat∧nth u2 x32.toNat<(↑x5.length:Int)) <|
 ask (InI (x32+(1:Int))) <|
 some (.inl (x32+(1:Int),x5.set (nth u2 x32.toNat).toNat true))
 else
 ask (InI (x32+(1:Int))) <|
 some (.inl (x32+(1:Int),x5))
 else
 some (.inr (.inr ()))
def G5 (u2:List Int):(Int×(List Bool))→St:=fun s=>[(32,A.val (Ag s.1)),(31,A.val (Ag ((↑u2.length:Int)))),(30,A.ref 51 []),(5,A.val ((slr true 1 V.bool) s.2)),(51,A.val ((slr true 1 Ag) (u2)))]
def K6 (u2:List Int):(Unit ⊕ Unit)→Tgt
 | (.inl _s)=>(Ex.ret,[4,51],[(4,A.val (V.bool (false))),(51,A.val ((slr true 1 Ag) (u2)))])
 | (.inr _s)=>((Ex.exit 0),[51],[(51,A.val ((slr true 1 Ag) (u2)))])
theorem Uq {u2:List Int} (s:(Int×(List Bool))) (o:(Int×(List Bool)) ⊕ (Unit ⊕ Unit)) (h:B6 u2 s=some o):vc Try.prog K3 (C1 [32,31,30,5,51] (G5 u2) (K6 u2) o) (G5 u2 s):=by
 obtain ⟨x32,x5⟩:=s
 unfold B6 at h
 try dsimp only at h
 refine Br.od h (fun p6 h=> ?_) (fun p6 h=> ?_)
 ·refine Len.map ?_
  refine Ask.o h fun p7 h=> ?_
  refine Cells.one (fun _=>⟨rfl,rfl⟩) (by first | omega | (simp [Aw] at * <;> omega)) ?_
  refine Br.od h (fun p8 h=> ?_) (fun p8 h=> ?_)
  ·refine Br.yes ?_
   refine Br.yes ?_
   refine Len.map ?_
   refine Ask.o h fun p9 h=> ?_
   refine Br.yes ?_
   refine Cells.one (fun _=>⟨rfl,rfl⟩) (by first | omega | (simp [Aw] at * <;> omega)) ?_
   refine Br.yes ?_
   refine Br.ob h (fun p10 h=> ?_) (fun p10 h=> ?_)
   ·cases h;exact ⟨rfl,rfl⟩
   refine Br.od h (fun p11 h=> ?_) (fun p11 h=> ?_)
   ·refine Len.map ?_
    refine Ask.o h fun p12 h=> ?_
    refine SetKids.one (fun _=>⟨rfl,rfl⟩) (true) (by rfl) (by first | omega | (simp [Aw] at * <;> omega)) ?_
    refine Ask.o h fun p13 h=> ?_
    cases h;exact ⟨rfl,rfl⟩
   refine Ask.o h fun p14 h=> ?_
   cases h;exact ⟨rfl,rfl⟩
  refine Br.no ?_
  refine Br.no ?_
  refine Br.no ?_
  refine Br.no ?_
  refine Br.no ?_
  refine Br.od h (fun p15 h=> ?_) (fun p15 h=> ?_)
  ·refine Len.map ?_
   refine Ask.o h fun p16 h=> ?_
   refine SetKids.one (fun _=>⟨rfl,rfl⟩) (true) (by rfl) (by first | omega | (simp [Aw] at * <;> omega)) ?_
   refine Ask.o h fun p17 h=> ?_
   cases h;exact ⟨rfl,rfl⟩
  refine Ask.o h fun p18 h=> ?_
  cases h;exact ⟨rfl,rfl⟩
 cases h;exact ⟨rfl,rfl⟩
noncomputable def Bv (s0:ShomSearch) (f0:(List Int)):Option (Bool×(List Int)):=
 (Fm (s0.a) (s0.b) (f0)).bind fun (r1,u2)=>
 if (r1)=true then
 if (s0.embed)=true then
 ask ((0:Int)≤s0.b.Size∧s0.b.Size≤(↑LIM:Int)) <|
 (Al (B6 u2) ((0:Int),List.replicate s0.b.Size.toNat false)).bind fun t=>match t with
 | (.inl _)=>(some (false,u2))
 | (.inr _)=>(some (true,u2))
 else
 some (true,u2)
 else
 some (false,u2)
theorem Iy {s0:ShomSearch} {f0:(List Int)} {v:(Bool×(List Int))} (h:Bv s0 f0=some v):H8 Try.prog Gg [(rP false (Fr false)) s0,(slr true 1 Ag) f0] (V.bool v.1) 1 ((slr true 1 Ag) v.2):=by
 refine I7 Yu (Nat.le_of_ble_eq_true rfl) ?_
 unfold Bv at h
 refine CallQ.io V.bool (slr true 1 Ag) (by rfl) rfl (fun _=>rfl) (fun _=>⟨rfl,rfl⟩) rfl h (fun r h=>X3 h) (fun r1 u2 h=> ?_)
 refine Br.flip ?_
 refine Br.ob h (fun p3 h=> ?_) (fun p3 h=> ?_)
 ·refine Br.flip ?_
  refine Br.ob h (fun p4 h=> ?_) (fun p4 h=> ?_)
  ·refine Ask.o h fun p5 h=> ?_
   refine MkQ.o V.bool (false) rfl ?_
   refine Len.map ?_
   refine LoopQ.o [32,31,30,5,51] (G5 u2) (K6 u2) h (fun s o h=>Uq s o h) (by rfl) (by rintro (_ | _)<;>rfl) ?_
   rintro (⟨⟩ | ⟨⟩) h
   ·try dsimp only at h
    cases h;exact ⟨(by rfl),(by rfl)⟩
   try dsimp only at h
   cases h;exact ⟨(by rfl),(by rfl)⟩
  cases h;exact ⟨(by rfl),(by rfl)⟩
 cases h;exact ⟨(by rfl),(by rfl)⟩
noncomputable def Gt (a0:SAlgebra):(Int×(List Bool))→Option ((Int×(List Bool)) ⊕ (List Bool)):=fun (x6,x5)=>
 if x6≤a0.Size then
 (La (a0) (x5)).bind fun r3=>
 ask (InI (x6+(1:Int))) <|
 some (.inl (x6+(1:Int),r3))
 else
 some (.inr x5)
def M3 (a0:SAlgebra):(Int×(List Bool))→St:=fun s=>[(6,A.val (Ag s.1)),(5,A.val ((slr true 1 V.bool) s.2)),(2,A.val ((rP true (Ae false)) (a0)))]
def Ti (_a0:SAlgebra):(List Bool)→Tgt
 | s=>((Ex.exit 0),[5],[(5,A.val ((slr true 1 V.bool) s))])
theorem Aeh {a0:SAlgebra} (s:(Int×(List Bool))) (o:(Int×(List Bool)) ⊕ (List Bool)) (h:Gt a0 s=some o):vc Try.prog Tx (C1 [6,5,2] (M3 a0) (Ti a0) o) (M3 a0 s):=by
 obtain ⟨x6,x5⟩:=s
 unfold Gt at h
 try dsimp only at h
 refine Cells.lit rfl rfl ?_
 refine Br.od h (fun p2 h=> ?_) (fun p2 h=> ?_)
 ·refine Cells.lit rfl rfl ?_
  refine CallQ.rd (slr true 1 V.bool) (by first | rfl | simp only [V.fz,fzL,Ab,slr] | simp [Aa,V.fz,fzL,V.up,upL,Ab,Ac,Ad,slr]) (fun _=>by simp [V.noFz,Bs]) h (fun r h=>Amy h) (fun r3 h=> ?_)
  refine Ask.o h fun p4 h=> ?_
  cases h;exact ⟨rfl,rfl⟩
 cases h;exact ⟨rfl,rfl⟩
noncomputable def Jf (a0:SAlgebra) (some0:(List Int)):Option (List Int):=
 (Pg (a0.Size) (some0)).bind fun r1=>
 (Al (Gt a0) ((0:Int),r1)).bind fun q5_5=>
 (K2 (q5_5)).bind fun r6=>
 some r6
theorem Al2 {a0:SAlgebra} {some0:(List Int)} {v:(List Int)} (h:Jf a0 some0=some v):Ret Try.prog Sc [(Ae false) a0,(slr false 1 Ag) some0] ((slr true 1 Ag) v):=by
 refine Bb Alb (Nat.le_of_ble_eq_true rfl) ?_
 unfold Jf at h
 refine Cells.lit rfl rfl ?_
 refine CallQ.o (slr true 1 V.bool) (by rfl) h (fun r h=>As2 h) (fun r1 h=> ?_)
 refine LoopQ.o [6,5,2] (M3 a0) (Ti a0) h (fun s o h=>Aeh s o h) (by rfl) (fun _=>rfl) ?_
 rintro q5_5 h
 try dsimp only at h
 refine CallQ.rd (slr true 1 Ag) (by first | rfl | simp only [V.fz,Ab,slr] | simp [Aa,V.fz,fzL,V.up,upL,Ab,Ac,Ad,slr]) (fun _=>by simp [V.noFz,Bs]) h (fun r h=>Aog h) (fun r6 h=> ?_)
 cases h;exact (by rfl)
noncomputable def Gs (a0:SAlgebra) (b0:SAlgebra):Option Bool:=
 (D6 (a0)).bind fun r1=>
 if (r1)=true then
 (D6 (b0)).bind fun r3=>
 if (r3)=true then
 (E6 (a0) (b0)).bind fun r5=>
 some r5
 else
 some false
 else
 some false
theorem Q3 {a0:SAlgebra} {b0:SAlgebra} {v:Bool} (h:Gs a0 b0=some v):Ret Try.prog Kh [(Ae false) a0,(Ae false) b0] (V.bool v):=by
 refine Bb Aq2 (Nat.le_of_ble_eq_true rfl) ?_
 unfold Gs at h
 refine Cells.lit rfl rfl ?_
 refine CallQ.o V.bool (by rfl) h (fun r h=>Iw h) (fun r1 h=> ?_)
 refine Br.ob h (fun p2 h=> ?_) (fun p2 h=> ?_)
 ·refine Cells.lit rfl rfl ?_
  refine Br.yes ?_
  refine CallQ.o V.bool (by rfl) h (fun r h=>Iw h) (fun r3 h=> ?_)
  refine Br.yes ?_
  refine Br.ob h (fun p4 h=> ?_) (fun p4 h=> ?_)
  ·refine Cells.lit rfl rfl ?_
   refine Br.yes ?_
   refine Cells.lit rfl rfl ?_
   refine Br.yes ?_
   refine CallQ.o V.bool (by rfl) h (fun r h=>Uj h) (fun r5 h=> ?_)
   refine Br.yes ?_
   cases h;exact (by rfl)
  refine Br.no ?_
  refine Br.no ?_
  refine Br.no ?_
  cases h;exact (by rfl)
 refine Br.no ?_
 refine Br.no ?_
 refine Br.no ?_
 refine Br.no ?_
 refine Br.no ?_
 refine Br.no ?_
 cases h;exact (by rfl)
noncomputable def Db (a0:SAlgebra) (_b0:SAlgebra) (_into0:Bool) (_onto0:Bool) (_most0:Int):(Int×(List Int))→Option ((Int×(List Int)) ⊕ (List Int)):=fun (x14,x13)=>
 if x14<a0.Size then
 ask ((x13).length+([(-1:Int)]).length≤LIM) <|
 ask (InI (x14+(1:Int))) <|
 some (.inl (x14+(1:Int),x13++[(-1:Int)]))
 else
 some (.inr x13)
def N3 (a0:SAlgebra) (b0:SAlgebra) (into0:Bool) (onto0:Bool) (most0:Int):(Int×(List Int))→St:=fun s=>[(14,A.val (Ag s.1)),(13,A.val ((slr true 1 Ag) s.2)),(12,A.val ((rP true (Bc)) ({ a:=a0,b:=b0,into:=into0,onto:=onto0,most:=most0,tries:=(0:Int),found:=Ao (List Int) }))),(6,A.val ((rP true (Ae false)) (b0))),(5,A.val ((rP true (Ae false)) (a0))),(2,A.val (V.bool (into0)))]
def Vp (a0:SAlgebra) (b0:SAlgebra) (into0:Bool) (onto0:Bool) (most0:Int):(List Int)→Tgt
 | s=>((Ex.exit 0),[13,12,6,5,2],[(13,A.val ((slr true 1 Ag) s)),(12,A.val ((rP true (Bc)) ({ a:=a0,b:=b0,into:=into0,onto:=onto0,most:=most0,tries:=(0:Int),found:=Ao (List Int) }))),(6,A.val ((rP true (Ae false)) (b0))),(5,A.val ((rP true (Ae false)) (a0))),(2,A.val (V.bool (into0)))])
theorem Agf {a0:SAlgebra} {b0:SAlgebra} {into0:Bool} {onto0:Bool} {most0:Int} (s:(Int×(List Int))) (o:(Int×(List Int)) ⊕ (List Int)) (h:Db a0 b0 into0 onto0 most0 s=some o):vc Try.prog Wl (C1 [14,13,12,6,5,2] (N3 a0 b0 into0 onto0 most0) (Vp a0 b0 into0 onto0 most0) o) (N3 a0 b0 into0 onto0 most0 s):=by
 obtain ⟨x14,x13⟩:=s
 unfold Db at h
 try dsimp only at h
 refine Cells.lit rfl rfl ?_
 refine Br.od h (fun p1 h=> ?_) (fun p1 h=> ?_)
 ·refine BslQ.o Ag ([(-1:Int)]) (by exact fun _=>⟨rfl,rfl⟩) (by first | rfl | (simp only [Aa,V.fz,fzL,V.up,upL,Ab,Ac,Ad,slr,List.cons_append,List.nil_append];done) | simp [Aa,V.fz,fzL,V.up,upL,Ab,Ac,Ad,slr]) ?_
  refine NoOwn.o (fun _=>rfl) ?_
  refine AppQ.o (m:=1) Ag (by exact fun _=>⟨rfl,rfl⟩) (x13) ([(-1:Int)]) (by rfl) (by rfl) h fun h=> ?_
  refine Ask.o h fun p2 h=> ?_
  cases h;exact ⟨rfl,rfl⟩
 cases h;exact ⟨rfl,rfl⟩
noncomputable def Cq (a0:SAlgebra) (b0:SAlgebra) (into0:Bool) (onto0:Bool) (most0:Int):Option ((List (List Int))×Bool):=
 (Al (Db a0 b0 into0 onto0 most0) ((0:Int),Ao Int)).bind fun q3_13=>
 (Do (a0) (b0) (q3_13)).bind fun r4=>
 ((if (r4.snd)=true then
 if (into0)=true then
 (E3 (r4.fst)).bind fun r7=>
 if (r7)=true then
 (Agn fun n=>Am n ({ a:=a0,b:=b0,into:=into0,onto:=onto0,most:=most0,tries:=(0:Int),found:=Ao (List Int) }) (r4.fst)).bind fun (_r9,u10)=>
 some u10
 else
 some ({ a:=a0,b:=b0,into:=into0,onto:=onto0,most:=most0,tries:=(0:Int),found:=Ao (List Int) })
 else
 (Agn fun n=>Am n ({ a:=a0,b:=b0,into:=into0,onto:=onto0,most:=most0,tries:=(0:Int),found:=Ao (List Int) }) (r4.fst)).bind fun (_r11,u12)=>
 some u12
 else
 some ({ a:=a0,b:=b0,into:=into0,onto:=onto0,most:=most0,tries:=(0:Int),found:=Ao (List Int) }):Option Sl7Search)).bind fun q13_12=>
 some (q13_12.found,decide (q13_12.tries≤(5000:Int)))
theorem Uf {a0:SAlgebra} {b0:SAlgebra} {into0:Bool} {onto0:Bool} {most0:Int} {v:((List (List Int))×Bool)} (h:Cq a0 b0 into0 onto0 most0=some v):Ret Try.prog Ku [(Ae false) a0,(Ae false) b0,V.bool into0,V.bool onto0,Ag most0] ((fun r=>V.tup [(slr false 1 (slr false 1 Ag)) r.1,V.bool r.2]) v):=by
 refine M2 Aoh (Nat.le_of_ble_eq_true rfl) ?_
 unfold Cq at h
 refine Cells.lit rfl rfl ?_
 refine Cells.lit rfl rfl ?_
 refine BslQ.o (slr true 1 Ag) (Ao (List Int)) (by exact fun _=>⟨rfl,rfl⟩) (by first | rfl | (simp only [Aa,V.fz,fzL,V.up,upL,Ab,Ac,Ad,slr,List.cons_append,List.nil_append];done) | simp [Aa,V.fz,fzL,V.up,upL,Ab,Ac,Ad,slr]) ?_
 refine BslQ.o Ag (Ao Int) (by exact fun _=>⟨rfl,rfl⟩) (by first | rfl | (simp only [Aa,V.fz,fzL,V.up,upL,Ab,Ac,Ad,slr,List.cons_append,List.nil_append];done) | simp [Aa,V.fz,fzL,V.up,upL,Ab,Ac,Ad,slr]) ?_
 refine LoopQ.o [14,13,12,6,5,2] (N3 a0 b0 into0 onto0 most0) (Vp a0 b0 into0 onto0 most0) h (fun s o h=>Agf s o h) (by rfl) (fun _=>rfl) ?_
 rintro q3_13 h
 try dsimp only at h
 refine Cells.lit rfl rfl ?_
 refine Cells.lit rfl rfl ?_
 refine CallQ.rd (fun r=>V.tup [(slr true 1 Ag) r.1,V.bool r.2]) (by first | rfl | simp only [V.fz,fzL,Ab,slr] | simp [Aa,V.fz,fzL,V.up,upL,Ab,Ac,Ad,slr]) (fun _=>by simp [V.noFz,Cc,Bs]) h (fun r h=>Sp h) (fun r4 h=> ?_)
 refine CutQ.o (fun t:Sl7Search=>match t with | s=>(Ex.normal,[12],[(12,A.val ((rP true (Bc)) s))])) h ?_ ?_
 ·intro t h
  refine FrzQ.d (V.sl false (1:Nat) (List.map Ag r4.fst)) (by first | (simp only [slr];done) | (simp [Ak,V.fz,Ab,slr];done) | (simp [Ak,V.fz,fzL,Ab,slr];done)) ?_
  refine Br.ob h (fun p5 h=> ?_) (fun p5 h=> ?_)
  ·refine Br.yes ?_
   refine Br.yes ?_
   refine Br.flip ?_
   refine Br.ob h (fun p6 h=> ?_) (fun p6 h=> ?_)
   ·refine Br.no ?_
    refine CallQ.o V.bool (by rfl) h (fun r h=>Aby h) (fun r7 h=> ?_)
    refine Br.yes ?_
    refine Br.no ?_
    refine Br.yes ?_
    refine Br.ob h (fun p8 h=> ?_) (fun p8 h=> ?_)
    ·refine CallQ.io (fun r=>V.tup []) (rP true (Bc)) (by rfl) rfl (fun _=>rfl) (fun _=>⟨rfl,rfl⟩) rfl h (fun r h=>Pi h) (fun r9 u10 h=> ?_)
     cases h;exact ⟨rfl,rfl⟩
    cases h;exact ⟨rfl,rfl⟩
   refine Br.yes ?_
   refine Br.yes ?_
   refine Br.yes ?_
   refine Br.yes ?_
   refine Br.yes ?_
   refine CallQ.io (fun r=>V.tup []) (rP true (Bc)) (by rfl) rfl (fun _=>rfl) (fun _=>⟨rfl,rfl⟩) rfl h (fun r h=>Pi h) (fun r11 u12 h=> ?_)
   cases h;exact ⟨rfl,rfl⟩
  refine Br.no ?_
  refine Br.no ?_
  refine Br.no ?_
  refine Br.no ?_
  refine Br.no ?_
  cases h;exact ⟨rfl,rfl⟩
 rintro q13_12 h
 try dsimp only at h
 refine FrzQ.d ((rP false (Ej false)) q13_12) ((Ak _).trans (Eq.trans (b:=V.fz ((rP true (Bc)) q13_12)) rfl (Ad (rP true (Bc)) _))) ?_
 cases h;exact (by rfl)
end Go.Proofs.Ytmkgjnphianalaa.Ax
