/-
 What the functions compute, as functions on plain data, and that the program does compute it; written by program.
-/
import Derived.Test.YtmkgjnphianalaaCode
namespace Go.Proofs.Ytmkgjnphianalaa.Ax
open Go
set_option maxRecDepth 100000
set_option maxHeartbeats 4000000
noncomputable def F4 (bits0:Int):(Int×(List Int))→Option ((Int×(List Int)) ⊕ (List Int)):=fun (x4,x3)=>
 ask ((0:Int)≤x4) <|
 if Axk bits0 x4>(0:Int) then
 ask ((0:Int)≤x4) <|
 if Ay9 (Axk bits0 x4) (1:Int)=(1:Int) then
 ask ((x3).length+([x4]).length≤LIM) <|
 ask (InI (x4+(1:Int))) <|
 some (.inl (x4+(1:Int),x3++[x4]))
 else
 ask (InI (x4+(1:Int))) <|
 some (.inl (x4+(1:Int),x3))
 else
 some (.inr x3)
def Nt (bits0:Int):(Int×(List Int))→St:=fun s=>[(4,A.val (Ag s.1)),(3,A.val ((slr true 1 Ag) s.2)),(0,A.val (Ag (bits0)))]
def Wg (_bits0:Int):(List Int)→Tgt
 | s=>((Ex.exit 0),[3],[(3,A.val ((slr true 1 Ag) s))])
theorem Ag3 {bits0:Int} (s:(Int×(List Int))) (o:(Int×(List Int)) ⊕ (List Int)) (h:F4 bits0 s=some o):vc Try.prog U0 (C1 [4,3,0] (Nt bits0) (Wg bits0) o) (Nt bits0 s):=by
 obtain ⟨x4,x3⟩:=s
 unfold F4 at h
 try dsimp only at h
 refine Ask.o h fun p1 h=> ?_
 refine Br.od h (fun p2 h=> ?_) (fun p2 h=> ?_)
 ·refine Ask.o h fun p3 h=> ?_
  refine Br.oe h (fun p4 h=> ?_) (fun p4 h=> ?_)
  ·refine BslQ.o Ag [x4] (by exact fun _=>⟨rfl,rfl⟩) (by first | rfl | (simp only [Aa,V.fz,fzL,V.up,upL,Ab,Ac,Ad,slr,List.cons_append,List.nil_append];done) | simp [Aa,V.fz,fzL,V.up,upL,Ab,Ac,Ad,slr]) ?_
   refine NoOwn.o (fun _=>rfl) ?_
   refine AppQ.o (m:=1) Ag (by exact fun _=>⟨rfl,rfl⟩) (x3) ([x4]) (by rfl) (by rfl) h fun h=> ?_
   refine Ask.o h fun p5 h=> ?_
   cases h;exact ⟨rfl,rfl⟩
  refine Ask.o h fun p6 h=> ?_
  cases h;exact ⟨rfl,rfl⟩
 cases h;exact ⟨rfl,rfl⟩
noncomputable def Ky (bits0:Int):Option (List Int):=
 (Al (F4 bits0) ((0:Int),Ao Int)).bind fun q7_3=>
 some q7_3
theorem Amo {bits0:Int} {v:(List Int)} (h:Ky bits0=some v):Ret Try.prog Up [Ag bits0] ((slr true 1 Ag) v):=by
 refine Bb Aob (Nat.le_of_ble_eq_true rfl) ?_
 unfold Ky at h
 refine BslQ.o Ag (Ao Int) (by exact fun _=>⟨rfl,rfl⟩) (by first | rfl | (simp only [Aa,V.fz,fzL,V.up,upL,Ab,Ac,Ad,slr,List.cons_append,List.nil_append];done) | simp [Aa,V.fz,fzL,V.up,upL,Ab,Ac,Ad,slr]) ?_
 refine LoopQ.o [4,3,0] (Nt bits0) (Wg bits0) h (fun s o h=>Ag3 s o h) (by rfl) (fun _=>rfl) ?_
 rintro q7_3 h
 try dsimp only at h
 cases h;exact (by rfl)
noncomputable def G0 (list0:List Int) (x0:Int):Int→Option (Int ⊕ (Int ⊕ Unit)):=fun x5=>
 if x5<(↑list0.length:Int) then
 ask ((0:Int)≤x5∧x5<(↑list0.length:Int)) <|
 if nth list0 x5.toNat=x0 then
 some (.inr (.inl x5))
 else
 ask (InI (x5+(1:Int))) <|
 some (.inl (x5+(1:Int)))
 else
 some (.inr (.inr ()))
def Mj (list0:List Int) (x0:Int):Int→St:=fun s=>[(5,A.val (Ag s)),(0,A.val ((slr false 1 Ag) (list0))),(1,A.val (Ag (x0)))]
def S8 (_list0:List Int) (_x0:Int):(Int ⊕ Unit)→Tgt
 | (.inl s)=>(Ex.ret,[4],[(4,A.val (Ag s))])
 | (.inr _s)=>((Ex.exit 0),[],[])
theorem Aew {list0:List Int} {x0:Int} (x5:Int) (o:Int ⊕ (Int ⊕ Unit)) (h:G0 list0 x0 x5=some o):vc Try.prog Tr (C1 [5,0,1] (Mj list0 x0) (S8 list0 x0) o) (Mj list0 x0 x5):=by
 unfold G0 at h
 try dsimp only at h
 refine Len.map ?_
 refine Br.od h (fun p1 h=> ?_) (fun p1 h=> ?_)
 ·refine Len.map ?_
  refine Ask.o h fun p2 h=> ?_
  refine Elem.o (by first | omega | (simp [Aw] at * <;> omega)) ?_
  refine Br.oe h (fun p3 h=> ?_) (fun p3 h=> ?_)
  ·cases h;exact ⟨rfl,rfl⟩
  refine Ask.o h fun p4 h=> ?_
  cases h;exact ⟨rfl,rfl⟩
 cases h;exact ⟨rfl,rfl⟩
noncomputable def J7 (list0:(List Int)) (x0:Int):Option Int:=
 (Al (G0 list0 x0) (0:Int)).bind fun t=>match t with
 | (.inl q5_4)=>(some q5_4)
 | (.inr _)=>(some (-1:Int))
theorem Ali {list0:(List Int)} {x0:Int} {v:Int} (h:J7 list0 x0=some v):Ret Try.prog Ru [(slr false 1 Ag) list0,Ag x0] (Ag v):=by
 refine Bb Ala (Nat.le_of_ble_eq_true rfl) ?_
 unfold J7 at h
 refine LoopQ.o [5,0,1] (Mj list0 x0) (S8 list0 x0) h (fun s o h=>Aew s o h) (by rfl) (by rintro (_ | _)<;>rfl) ?_
 rintro (q5_4 | ⟨⟩) h
 ·try dsimp only at h
  cases h;exact (by rfl)
 try dsimp only at h
 cases h;exact (by rfl)
noncomputable def E0 (a0:List Int) (b0:List Int):Int→Option (Int ⊕ (Unit ⊕ Unit)):=fun x5=>
 if x5<(↑a0.length:Int) then
 ask ((0:Int)≤x5∧x5<(↑a0.length:Int)) <|
 ask ((0:Int)≤x5∧x5<(↑b0.length:Int)) <|
 if nth a0 x5.toNat≠nth b0 x5.toNat then
 some (.inr (.inl ()))
 else
 ask (InI (x5+(1:Int))) <|
 some (.inl (x5+(1:Int)))
 else
 some (.inr (.inr ()))
def Om (a0:List Int) (b0:List Int):Int→St:=fun s=>[(5,A.val (Ag s)),(0,A.val ((slr false 1 Ag) (a0))),(1,A.val ((slr false 1 Ag) (b0)))]
def V6 (_a0:List Int) (_b0:List Int):(Unit ⊕ Unit)→Tgt
 | (.inl _s)=>(Ex.ret,[4],[(4,A.val (V.bool (false)))])
 | (.inr _s)=>((Ex.exit 0),[],[])
theorem Afh {a0:List Int} {b0:List Int} (x5:Int) (o:Int ⊕ (Unit ⊕ Unit)) (h:E0 a0 b0 x5=some o):vc Try.prog Vb (C1 [5,0,1] (Om a0 b0) (V6 a0 b0) o) (Om a0 b0 x5):=by
 unfold E0 at h
 try dsimp only at h
 refine Len.map ?_
 refine Br.od h (fun p2 h=> ?_) (fun p2 h=> ?_)
 ·refine Len.map ?_
  refine Ask.o h fun p3 h=> ?_
  refine Elem.o (by first | omega | (simp [Aw] at * <;> omega)) ?_
  refine Len.map ?_
  refine Ask.o h fun p4 h=> ?_
  refine Elem.o (by first | omega | (simp [Aw] at * <;> omega)) ?_
  refine Br.on h (fun p5 h=> ?_) (fun p5 h=> ?_)
  ·cases h;exact ⟨rfl,rfl⟩
  refine Ask.o h fun p6 h=> ?_
  cases h;exact ⟨rfl,rfl⟩
 cases h;exact ⟨rfl,rfl⟩
noncomputable def Iu (a0:(List Int)) (b0:(List Int)):Option Bool:=
 if (↑a0.length:Int)≠(↑b0.length:Int) then
 some false
 else
 (Al (E0 a0 b0) (0:Int)).bind fun t=>match t with
 | (.inl _)=>(some false)
 | (.inr _)=>(some true)
theorem Abt {a0:(List Int)} {b0:(List Int)} {v:Bool} (h:Iu a0 b0=some v):Ret Try.prog O9 [(slr false 1 Ag) a0,(slr false 1 Ag) b0] (V.bool v):=by
 refine Bb Anb (Nat.le_of_ble_eq_true rfl) ?_
 unfold Iu at h
 refine Len.map ?_
 refine Len.map ?_
 refine Br.on h (fun p1 h=> ?_) (fun p1 h=> ?_)
 ·cases h;exact (by rfl)
 refine LoopQ.o [5,0,1] (Om a0 b0) (V6 a0 b0) h (fun s o h=>Afh s o h) (by rfl) (by rintro (_ | _)<;>rfl) ?_
 rintro (⟨⟩ | ⟨⟩) h
 ·try dsimp only at h
  cases h;exact (by rfl)
 try dsimp only at h
 cases h;exact (by rfl)
noncomputable def Eo (a0:SAlgebra):(Int×(List Int))→Option ((Int×(List Int)) ⊕ (List Int)):=fun (x4,x3)=>
 if x4<(↑a0.Ops.length:Int) then
 ask ((0:Int)≤x4∧x4<(↑a0.Ops.length:Int)) <|
 ask ((x3).length+([(nth a0.Ops x4.toNat).Arity]).length≤LIM) <|
 ask (InI (x4+(1:Int))) <|
 some (.inl (x4+(1:Int),x3++[(nth a0.Ops x4.toNat).Arity]))
 else
 some (.inr x3)
def N5 (a0:SAlgebra):(Int×(List Int))→St:=fun s=>[(4,A.val (Ag s.1)),(3,A.val ((slr true 1 Ag) s.2)),(1,A.val ((rP true (Ae false)) (a0)))]
def Vt (_a0:SAlgebra):(List Int)→Tgt
 | s=>((Ex.exit 0),[3],[(3,A.val ((slr true 1 Ag) s))])
theorem Ag6 {a0:SAlgebra} (s:(Int×(List Int))) (o:(Int×(List Int)) ⊕ (List Int)) (h:Eo a0 s=some o):vc Try.prog V7 (C1 [4,3,1] (N5 a0) (Vt a0) o) (N5 a0 s):=by
 obtain ⟨x4,x3⟩:=s
 unfold Eo at h
 try dsimp only at h
 refine Cells.lit rfl rfl ?_
 refine Len.map ?_
 refine Br.od h (fun p1 h=> ?_) (fun p1 h=> ?_)
 ·refine Cells.lit rfl rfl ?_
  refine Len.map ?_
  refine Ask.o h fun p2 h=> ?_
  refine Elem.o (by first | omega | (simp [Aw] at * <;> omega)) ?_
  refine BslQ.o Ag ([(nth a0.Ops x4.toNat).Arity]) (by exact fun _=>⟨rfl,rfl⟩) (by first | rfl | (simp only [Aa,V.fz,fzL,V.up,upL,Ab,Ac,Ad,slr,List.cons_append,List.nil_append];done) | simp [Aa,V.fz,fzL,V.up,upL,Ab,Ac,Ad,slr]) ?_
  refine NoOwn.o (fun _=>rfl) ?_
  refine AppQ.o (m:=1) Ag (by exact fun _=>⟨rfl,rfl⟩) (x3) ([(nth a0.Ops x4.toNat).Arity]) (by rfl) (by rfl) h fun h=> ?_
  refine Ask.o h fun p3 h=> ?_
  cases h;exact ⟨rfl,rfl⟩
 cases h;exact ⟨rfl,rfl⟩
noncomputable def It (a0:SAlgebra):Option (List Int):=
 (Al (Eo a0) ((0:Int),Ao Int)).bind fun q4_3=>
 some q4_3
theorem Abm {a0:SAlgebra} {v:(List Int)} (h:It a0=some v):Ret Try.prog Ox [(Ae false) a0] ((slr true 1 Ag) v):=by
 refine Bb Am3 (Nat.le_of_ble_eq_true rfl) ?_
 unfold It at h
 refine BslQ.o Ag (Ao Int) (by exact fun _=>⟨rfl,rfl⟩) (by first | rfl | (simp only [Aa,V.fz,fzL,V.up,upL,Ab,Ac,Ad,slr,List.cons_append,List.nil_append];done) | simp [Aa,V.fz,fzL,V.up,upL,Ab,Ac,Ad,slr]) ?_
 refine LoopQ.o [4,3,1] (N5 a0) (Vt a0) h (fun s o h=>Ag6 s o h) (by rfl) (fun _=>rfl) ?_
 rintro q4_3 h
 try dsimp only at h
 cases h;exact (by rfl)
noncomputable def E1 (list0:List Int) (n0:Int):Int→Option (Int ⊕ (Unit ⊕ Unit)):=fun x9=>
 if x9<(↑list0.length:Int) then
 ask ((0:Int)≤x9∧x9<(↑list0.length:Int)) <|
 if nth list0 x9.toNat<(0:Int) then
 some (.inr (.inl ()))
 else
 if nth list0 x9.toNat≥n0 then
 some (.inr (.inl ()))
 else
 ask (InI (x9+(1:Int))) <|
 some (.inl (x9+(1:Int)))
 else
 some (.inr (.inr ()))
def N7 (list0:List Int) (n0:Int):Int→St:=fun s=>[(9,A.val (Ag s)),(8,A.val (Ag ((↑list0.length:Int)))),(7,A.val ((slr false 1 Ag) (list0))),(1,A.val (Ag (n0)))]
def U4 (_list0:List Int) (_n0:Int):(Unit ⊕ Unit)→Tgt
 | (.inl _s)=>(Ex.ret,[4],[(4,A.val (V.bool (false)))])
 | (.inr _s)=>((Ex.exit 0),[],[])
theorem Agt {list0:List Int} {n0:Int} (x9:Int) (o:Int ⊕ (Unit ⊕ Unit)) (h:E1 list0 n0 x9=some o):vc Try.prog Wp (C1 [9,8,7,1] (N7 list0 n0) (U4 list0 n0) o) (N7 list0 n0 x9):=by
 unfold E1 at h
 try dsimp only at h
 refine Br.od h (fun p1 h=> ?_) (fun p1 h=> ?_)
 ·refine Len.map ?_
  refine Ask.o h fun p2 h=> ?_
  refine Elem.o (by first | omega | (simp [Aw] at * <;> omega)) ?_
  refine Br.od h (fun p3 h=> ?_) (fun p3 h=> ?_)
  ·refine Br.yes ?_
   refine Br.yes ?_
   refine Br.yes ?_
   refine Br.yes ?_
   cases h;exact ⟨rfl,rfl⟩
  refine Br.no ?_
  refine Br.no ?_
  refine Br.no ?_
  refine Br.od h (fun p4 h=> ?_) (fun p4 h=> ?_)
  ·cases h;exact ⟨rfl,rfl⟩
  refine Ask.o h fun p5 h=> ?_
  cases h;exact ⟨rfl,rfl⟩
 cases h;exact ⟨rfl,rfl⟩
noncomputable def Iv (list0:(List Int)) (n0:Int):Option Bool:=
 (Al (E1 list0 n0) (0:Int)).bind fun t=>match t with
 | (.inl _)=>(some false)
 | (.inr _)=>(some true)
theorem Abl {list0:(List Int)} {n0:Int} {v:Bool} (h:Iv list0 n0=some v):Ret Try.prog Oz [(slr false 1 Ag) list0,Ag n0] (V.bool v):=by
 refine Bb Ang (Nat.le_of_ble_eq_true rfl) ?_
 unfold Iv at h
 refine Len.map ?_
 refine LoopQ.o [9,8,7,1] (N7 list0 n0) (U4 list0 n0) h (fun s o h=>Agt s o h) (by rfl) (by rintro (_ | _)<;>rfl) ?_
 rintro (⟨⟩ | ⟨⟩) h
 ·try dsimp only at h
  cases h;exact (by rfl)
 try dsimp only at h
 cases h;exact (by rfl)
noncomputable def Gf (s0:ByteArray):(Int×SOp)→Option ((Int×SOp) ⊕ SOp):=fun (x4,x3)=>
 if x4<(↑s0.size:Int) then
 ask ((0:Int)≤x4∧x4<(↑s0.size:Int)) <|
 ask ((x3.Table).length+([IntKind.i64.wrap (IntKind.u8.wrap (Ahd s0 x4-(48:Int)))]).length≤LIM) <|
 ask (InI (x4+(1:Int))) <|
 some (.inl (x4+(1:Int),{ Arity:=x3.Arity,Table:=x3.Table++[IntKind.i64.wrap (IntKind.u8.wrap (Ahd s0 x4-(48:Int)))] }))
 else
 some (.inr x3)
def Lu (s0:ByteArray):(Int×SOp)→St:=fun s=>[(4,A.val (Ag s.1)),(3,A.val ((rP true (A9 true)) s.2)),(2,A.val ((rP true (A9 true)) ({ Arity:=(0:Int),Table:=Ao Int }))),(0,A.val (V.str (s0)))]
def Rz (_s0:ByteArray):SOp→Tgt
 | s=>((Ex.exit 0),[3,2],[(3,A.val ((rP true (A9 true)) s)),(2,A.val ((rP true (A9 true)) ({ Arity:=(0:Int),Table:=Ao Int })))])
theorem Ac9 {s0:ByteArray} (s:(Int×SOp)) (o:(Int×SOp) ⊕ SOp) (h:Gf s0 s=some o):vc Try.prog Rv (C1 [4,3,2,0] (Lu s0) (Rz s0) o) (Lu s0 s):=by
 obtain ⟨x4,x3⟩:=s
 unfold Gf at h
 try dsimp only at h
 refine Br.od h (fun p1 h=> ?_) (fun p1 h=> ?_)
 ·refine Cells.lit rfl rfl ?_
  refine Ask.o h fun p2 h=> ?_
  refine BslQ.o Ag ([IntKind.i64.wrap (IntKind.u8.wrap (Ahd s0 x4-(48:Int)))]) (by exact fun _=>⟨rfl,rfl⟩) (by first | rfl | (simp only [Aa,V.fz,fzL,V.up,upL,Ab,Ac,Ad,slr,List.cons_append,List.nil_append];done) | simp [Aa,V.fz,fzL,V.up,upL,Ab,Ac,Ad,slr]) ?_
  refine NoOwn.o (fun _=>rfl) ?_
  refine Kid.lit rfl rfl ?_
  refine Kid.lit rfl rfl ?_
  refine SetKids.lit rfl ?_
  refine AppQ.o (m:=1) Ag (by exact fun _=>⟨rfl,rfl⟩) (x3.Table) ([IntKind.i64.wrap (IntKind.u8.wrap (Ahd s0 x4-(48:Int)))]) (by rfl) (by rfl) h fun h=> ?_
  refine SetKids.lit rfl ?_
  refine Ask.o h fun p3 h=> ?_
  cases h;exact ⟨rfl,rfl⟩
 cases h;exact ⟨rfl,rfl⟩
noncomputable def Bh (s0:ByteArray):Option SOp:=
 (Al (Gf s0) ((0:Int),{ Arity:=(2:Int),Table:=Ao Int })).bind fun q4_3=>
 some q4_3
theorem Bx {s0:ByteArray} {v:SOp} (h:Bh s0=some v):Ret Try.prog Bp [V.str s0] ((A9 true) v):=by
 refine Bb Ail (Nat.le_of_ble_eq_true rfl) ?_
 unfold Bh at h
 refine SetKids.lit rfl ?_
 refine LoopQ.o [4,3,2,0] (Lu s0) (Rz s0) h (fun s o h=>Ac9 s o h) (by rfl) (fun _=>rfl) ?_
 rintro q4_3 h
 try dsimp only at h
 refine Cells.lit rfl rfl ?_
 refine SetKids.lit rfl ?_
 cases h;exact (by rfl)
noncomputable def F7 (n0:Int):(Int×SOp)→Option ((Int×SOp) ⊕ SOp):=fun (x4,x3)=>
 ask (InI (n0*n0)) <|
 ask (InI (n0*n0*n0)) <|
 if x4<n0*n0*n0 then
 ask (InI (n0*n0)) <|
 ask (n0*n0≠(0:Int)∧InI (x4.tdiv (n0*n0))) <|
 ask (InI (x4.tdiv (n0*n0)+n0)) <|
 ask (n0≠(0:Int)∧InI (x4.tdiv n0)) <|
 ask (n0≠(0:Int)) <|
 ask (InI (x4.tdiv (n0*n0)+n0-(x4.tdiv n0).tmod n0)) <|
 ask (n0≠(0:Int)) <|
 ask (InI (x4.tdiv (n0*n0)+n0-(x4.tdiv n0).tmod n0+x4.tmod n0)) <|
 ask (n0≠(0:Int)) <|
 ask ((x3.Table).length+([(x4.tdiv (n0*n0)+n0-(x4.tdiv n0).tmod n0+x4.tmod n0).tmod n0]).length≤LIM) <|
 ask (InI (x4+(1:Int))) <|
 some (.inl (x4+(1:Int),{ Arity:=x3.Arity,Table:=x3.Table++[(x4.tdiv (n0*n0)+n0-(x4.tdiv n0).tmod n0+x4.tmod n0).tmod n0] }))
 else
 some (.inr x3)
def L1 (n0:Int):(Int×SOp)→St:=fun s=>[(4,A.val (Ag s.1)),(3,A.val ((rP true (A9 true)) s.2)),(2,A.val ((rP true (A9 true)) ({ Arity:=(0:Int),Table:=Ao Int }))),(0,A.val (Ag (n0)))]
def Sl (_n0:Int):SOp→Tgt
 | s=>((Ex.exit 0),[3,2],[(3,A.val ((rP true (A9 true)) s)),(2,A.val ((rP true (A9 true)) ({ Arity:=(0:Int),Table:=Ao Int })))])
theorem Ac2 {n0:Int} (s:(Int×SOp)) (o:(Int×SOp) ⊕ SOp) (h:F7 n0 s=some o):vc Try.prog Rn (C1 [4,3,2,0] (L1 n0) (Sl n0) o) (L1 n0 s):=by
 obtain ⟨x4,x3⟩:=s
 unfold F7 at h
 try dsimp only at h
 refine Ask.o h fun p1 h=> ?_
 refine Ask.o h fun p2 h=> ?_
 refine Br.od h (fun p3 h=> ?_) (fun p3 h=> ?_)
 ·refine Cells.lit rfl rfl ?_
  refine Ask.o h fun p4 h=> ?_
  refine Ask.o h fun p5 h=> ?_
  refine Ask.o h fun p6 h=> ?_
  refine Ask.o h fun p7 h=> ?_
  refine Ask.o h fun p8 h=> ?_
  refine Ask.o h fun p9 h=> ?_
  refine Ask.o h fun p10 h=> ?_
  refine Ask.o h fun p11 h=> ?_
  refine Ask.o h fun p12 h=> ?_
  refine BslQ.o Ag ([(x4.tdiv (n0*n0)+n0-(x4.tdiv n0).tmod n0+x4.tmod n0).tmod n0]) (by exact fun _=>⟨rfl,rfl⟩) (by first | rfl | (simp only [Aa,V.fz,fzL,V.up,upL,Ab,Ac,Ad,slr,List.cons_append,List.nil_append];done) | simp [Aa,V.fz,fzL,V.up,upL,Ab,Ac,Ad,slr]) ?_
  refine NoOwn.o (fun _=>rfl) ?_
  refine Kid.lit rfl rfl ?_
  refine Kid.lit rfl rfl ?_
  refine SetKids.lit rfl ?_
  refine AppQ.o (m:=1) Ag (by exact fun _=>⟨rfl,rfl⟩) (x3.Table) ([(x4.tdiv (n0*n0)+n0-(x4.tdiv n0).tmod n0+x4.tmod n0).tmod n0]) (by rfl) (by rfl) h fun h=> ?_
  refine SetKids.lit rfl ?_
  refine Ask.o h fun p13 h=> ?_
  cases h;exact ⟨rfl,rfl⟩
 cases h;exact ⟨rfl,rfl⟩
noncomputable def Gl (n0:Int):Option SOp:=
 (Al (F7 n0) ((0:Int),{ Arity:=(3:Int),Table:=Ao Int })).bind fun q14_3=>
 some q14_3
theorem Yg {n0:Int} {v:SOp} (h:Gl n0=some v):Ret Try.prog Lb [Ag n0] ((A9 true) v):=by
 refine Bb Ai9 (Nat.le_of_ble_eq_true rfl) ?_
 unfold Gl at h
 refine SetKids.lit rfl ?_
 refine LoopQ.o [4,3,2,0] (L1 n0) (Sl n0) h (fun s o h=>Ac2 s o h) (by rfl) (fun _=>rfl) ?_
 rintro q14_3 h
 try dsimp only at h
 refine Cells.lit rfl rfl ?_
 refine SetKids.lit rfl ?_
 cases h;exact (by rfl)
noncomputable def E2 (a0:List Int) (b0:List Int):Int→Option (Int ⊕ (Bool ⊕ Unit)):=fun x5=>
 if x5<(↑a0.length:Int) then
 ask ((0:Int)≤x5∧x5<(↑a0.length:Int)) <|
 ask ((0:Int)≤x5∧x5<(↑b0.length:Int)) <|
 if nth a0 x5.toNat≠nth b0 x5.toNat then
 ask ((0:Int)≤x5∧x5<(↑a0.length:Int)) <|
 ask ((0:Int)≤x5∧x5<(↑b0.length:Int)) <|
 some (.inr (.inl (decide (nth a0 x5.toNat<nth b0 x5.toNat))))
 else
 ask (InI (x5+(1:Int))) <|
 some (.inl (x5+(1:Int)))
 else
 some (.inr (.inr ()))
def Ol (a0:List Int) (b0:List Int):Int→St:=fun s=>[(5,A.val (Ag s)),(0,A.val ((slr false 1 Ag) (a0))),(1,A.val ((slr false 1 Ag) (b0)))]
def W0 (_a0:List Int) (_b0:List Int):(Bool ⊕ Unit)→Tgt
 | (.inl s)=>(Ex.ret,[4],[(4,A.val (V.bool s))])
 | (.inr _s)=>((Ex.exit 0),[],[])
theorem Afg {a0:List Int} {b0:List Int} (x5:Int) (o:Int ⊕ (Bool ⊕ Unit)) (h:E2 a0 b0 x5=some o):vc Try.prog V5 (C1 [5,0,1] (Ol a0 b0) (W0 a0 b0) o) (Ol a0 b0 x5):=by
 unfold E2 at h
 try dsimp only at h
 refine Len.map ?_
 refine Br.od h (fun p1 h=> ?_) (fun p1 h=> ?_)
 ·refine Len.map ?_
  refine Ask.o h fun p2 h=> ?_
  refine Elem.o (by first | omega | (simp [Aw] at * <;> omega)) ?_
  refine Len.map ?_
  refine Ask.o h fun p3 h=> ?_
  refine Elem.o (by first | omega | (simp [Aw] at * <;> omega)) ?_
  refine Br.on h (fun p4 h=> ?_) (fun p4 h=> ?_)
  ·refine Len.map ?_
   refine Ask.o h fun p5 h=> ?_
   refine Elem.o (by first | omega | (simp [Aw] at * <;> omega)) ?_
   refine Len.map ?_
   refine Ask.o h fun p6 h=> ?_
   refine Elem.o (by first | omega | (simp [Aw] at * <;> omega)) ?_
   cases h;exact ⟨rfl,rfl⟩
  refine Ask.o h fun p7 h=> ?_
  cases h;exact ⟨rfl,rfl⟩
 cases h;exact ⟨rfl,rfl⟩
noncomputable def Kv (a0:(List Int)) (b0:(List Int)):Option Bool:=
 (Al (E2 a0 b0) (0:Int)).bind fun t=>match t with
 | (.inl q8_4)=>(some q8_4)
 | (.inr _)=>(some false)
theorem Aoe {a0:(List Int)} {b0:(List Int)} {v:Bool} (h:Kv a0 b0=some v):Ret Try.prog Ut [(slr false 1 Ag) a0,(slr false 1 Ag) b0] (V.bool v):=by
 refine Bb Amz (Nat.le_of_ble_eq_true rfl) ?_
 unfold Kv at h
 refine LoopQ.o [5,0,1] (Ol a0 b0) (W0 a0 b0) h (fun s o h=>Afg s o h) (by rfl) (by rintro (_ | _)<;>rfl) ?_
 rintro (q8_4 | ⟨⟩) h
 ·try dsimp only at h
  cases h;exact (by rfl)
 try dsimp only at h
 cases h;exact (by rfl)
noncomputable def Fi (n0:Int):(Int×Int)→Option ((Int×Int) ⊕ Int):=fun (x5,x1)=>
 if x1>(0:Int) then
 ask (InI (x5*n0)) <|
 ask (InI (x1-(1:Int))) <|
 some (.inl (x5*n0,x1-(1:Int)))
 else
 some (.inr x5)
def P9 (n0:Int):(Int×Int)→St:=fun s=>[(5,A.val (Ag s.1)),(0,A.val (Ag (n0))),(1,A.val (Ag s.2))]
def Yf (_n0:Int):Int→Tgt
 | s=>((Ex.exit 0),[5],[(5,A.val (Ag s))])
theorem Ah2 {n0:Int} (s:(Int×Int)) (o:(Int×Int) ⊕ Int) (h:Fi n0 s=some o):vc Try.prog X4 (C1 [5,0,1] (P9 n0) (Yf n0) o) (P9 n0 s):=by
 obtain ⟨x5,x1⟩:=s
 unfold Fi at h
 try dsimp only at h
 refine Br.od h (fun p1 h=> ?_) (fun p1 h=> ?_)
 ·refine Ask.o h fun p2 h=> ?_
  refine Ask.o h fun p3 h=> ?_
  cases h;exact ⟨rfl,rfl⟩
 cases h;exact ⟨rfl,rfl⟩
noncomputable def Kc (n0:Int) (k0:Int):Option Int:=
 (Al (Fi n0) ((1:Int),k0)).bind fun q4_5=>
 some q4_5
theorem Ars {n0:Int} {k0:Int} {v:Int} (h:Kc n0 k0=some v):Ret Try.prog Xq [Ag n0,Ag k0] (Ag v):=by
 refine Bb Ap0 (Nat.le_of_ble_eq_true rfl) ?_
 unfold Kc at h
 refine LoopQ.o [5,0,1] (P9 n0) (Yf n0) h (fun s o h=>Ah2 s o h) (by rfl) (fun _=>rfl) ?_
 rintro q4_5 h
 try dsimp only at h
 cases h;exact (by rfl)
noncomputable def Ds (a0:List Int) (b0:List Int):Int→Option (Int ⊕ (Unit ⊕ Unit)):=fun x14=>
 if x14<(↑a0.length:Int) then
 ask ((0:Int)≤x14∧x14<(↑a0.length:Int)) <|
 ask ((0:Int)≤x14∧x14<(↑b0.length:Int)) <|
 if nth b0 x14.toNat≠nth a0 x14.toNat then
 some (.inr (.inl ()))
 else
 ask (InI (x14+(1:Int))) <|
 some (.inl (x14+(1:Int)))
 else
 some (.inr (.inr ()))
def Lv (a0:List Int) (b0:List Int):Int→St:=fun s=>[(14,A.val (Ag s)),(13,A.val (Ag ((↑a0.length:Int)))),(12,A.val ((slr false 1 Ag) (a0))),(1,A.val ((slr false 1 Ag) (b0)))]
def Sj (_a0:List Int) (_b0:List Int):(Unit ⊕ Unit)→Tgt
 | (.inl _s)=>(Ex.ret,[4],[(4,A.val (V.bool (false)))])
 | (.inr _s)=>((Ex.exit 0),[],[])
theorem Aci {a0:List Int} {b0:List Int} (x14:Int) (o:Int ⊕ (Unit ⊕ Unit)) (h:Ds a0 b0 x14=some o):vc Try.prog Sz (C1 [14,13,12,1] (Lv a0 b0) (Sj a0 b0) o) (Lv a0 b0 x14):=by
 unfold Ds at h
 try dsimp only at h
 refine Br.od h (fun p2 h=> ?_) (fun p2 h=> ?_)
 ·refine Len.map ?_
  refine Ask.o h fun p3 h=> ?_
  refine Elem.o (by first | omega | (simp [Aw] at * <;> omega)) ?_
  refine Len.map ?_
  refine Ask.o h fun p4 h=> ?_
  refine Elem.o (by first | omega | (simp [Aw] at * <;> omega)) ?_
  refine Br.on h (fun p5 h=> ?_) (fun p5 h=> ?_)
  ·cases h;exact ⟨rfl,rfl⟩
  refine Ask.o h fun p6 h=> ?_
  cases h;exact ⟨rfl,rfl⟩
 cases h;exact ⟨rfl,rfl⟩
noncomputable def Iq (a0:(List Int)) (b0:(List Int)):Option Bool:=
 if (↑a0.length:Int)≠(↑b0.length:Int) then
 some false
 else
 (Al (Ds a0 b0) (0:Int)).bind fun t=>match t with
 | (.inl _)=>(some false)
 | (.inr _)=>(some true)
theorem Ai1 {a0:(List Int)} {b0:(List Int)} {v:Bool} (h:Iq a0 b0=some v):Ret Try.prog Qh [(slr false 1 Ag) a0,(slr false 1 Ag) b0] (V.bool v):=by
 refine Bb Aim (Nat.le_of_ble_eq_true rfl) ?_
 unfold Iq at h
 refine Len.map ?_
 refine Len.map ?_
 refine Br.on h (fun p1 h=> ?_) (fun p1 h=> ?_)
 ·cases h;exact (by rfl)
 refine Len.map ?_
 refine LoopQ.o [14,13,12,1] (Lv a0 b0) (Sj a0 b0) h (fun s o h=>Aci s o h) (by rfl) (by rintro (_ | _)<;>rfl) ?_
 rintro (⟨⟩ | ⟨⟩) h
 ·try dsimp only at h
  cases h;exact (by rfl)
 try dsimp only at h
 cases h;exact (by rfl)
noncomputable def Es (a0:SAlgebra):(Int×(List Int))→Option ((Int×(List Int)) ⊕ (List Int)):=fun (x10,x3)=>
 if x10<(↑a0.Ops.length:Int) then
 ask ((0:Int)≤x10∧x10<(↑a0.Ops.length:Int)) <|
 ask ((x3).length+([(nth a0.Ops x10.toNat).Arity]).length≤LIM) <|
 ask (InI (x10+(1:Int))) <|
 some (.inl (x10+(1:Int),x3++[(nth a0.Ops x10.toNat).Arity]))
 else
 some (.inr x3)
def Oo (a0:SAlgebra):(Int×(List Int))→St:=fun s=>[(10,A.val (Ag s.1)),(9,A.val (Ag ((↑a0.Ops.length:Int)))),(8,A.val ((slr false 2 (A9 false)) (a0.Ops))),(3,A.val ((slr true 1 Ag) s.2))]
def Vk (_a0:SAlgebra):(List Int)→Tgt
 | s=>((Ex.exit 0),[3],[(3,A.val ((slr true 1 Ag) s))])
theorem Af5 {a0:SAlgebra} (s:(Int×(List Int))) (o:(Int×(List Int)) ⊕ (List Int)) (h:Es a0 s=some o):vc Try.prog Wr (C1 [10,9,8,3] (Oo a0) (Vk a0) o) (Oo a0 s):=by
 obtain ⟨x10,x3⟩:=s
 unfold Es at h
 try dsimp only at h
 refine Br.od h (fun p1 h=> ?_) (fun p1 h=> ?_)
 ·refine Len.map ?_
  refine Ask.o h fun p2 h=> ?_
  refine Elem.o (by first | omega | (simp [Aw] at * <;> omega)) ?_
  refine SetKids.lit rfl ?_
  refine Cells.lit rfl rfl ?_
  refine BslQ.o Ag ([(nth a0.Ops x10.toNat).Arity]) (by exact fun _=>⟨rfl,rfl⟩) (by first | rfl | (simp only [Aa,V.fz,fzL,V.up,upL,Ab,Ac,Ad,slr,List.cons_append,List.nil_append];done) | simp [Aa,V.fz,fzL,V.up,upL,Ab,Ac,Ad,slr]) ?_
  refine NoOwn.o (fun _=>rfl) ?_
  refine AppQ.o (m:=1) Ag (by exact fun _=>⟨rfl,rfl⟩) (x3) ([(nth a0.Ops x10.toNat).Arity]) (by rfl) (by rfl) h fun h=> ?_
  refine Ask.o h fun p3 h=> ?_
  cases h;exact ⟨rfl,rfl⟩
 cases h;exact ⟨rfl,rfl⟩
noncomputable def Ir (a0:SAlgebra):Option (List Int):=
 (Al (Es a0) ((0:Int),Ao Int)).bind fun q4_3=>
 some q4_3
theorem Abo {a0:SAlgebra} {v:(List Int)} (h:Ir a0=some v):Ret Try.prog O7 [(Ae false) a0] ((slr true 1 Ag) v):=by
 refine Bb Ant (Nat.le_of_ble_eq_true rfl) ?_
 unfold Ir at h
 refine BslQ.o Ag (Ao Int) (by exact fun _=>⟨rfl,rfl⟩) (by first | rfl | (simp only [Aa,V.fz,fzL,V.up,upL,Ab,Ac,Ad,slr,List.cons_append,List.nil_append];done) | simp [Aa,V.fz,fzL,V.up,upL,Ab,Ac,Ad,slr]) ?_
 refine Cells.lit rfl rfl ?_
 refine Len.map ?_
 refine LoopQ.o [10,9,8,3] (Oo a0) (Vk a0) h (fun s o h=>Af5 s o h) (by rfl) (fun _=>rfl) ?_
 rintro q4_3 h
 try dsimp only at h
 cases h;exact (by rfl)
noncomputable def He (some0:List Int):(Int×(List Bool))→Option ((Int×(List Bool)) ⊕ (List Bool)):=fun (x6,x5)=>
 if x6<(↑some0.length:Int) then
 ask ((0:Int)≤x6∧x6<(↑some0.length:Int)) <|
 ask ((0:Int)≤nth some0 x6.toNat∧nth some0 x6.toNat<(↑x5.length:Int)) <|
 ask (InI (x6+(1:Int))) <|
 some (.inl (x6+(1:Int),x5.set (nth some0 x6.toNat).toNat true))
 else
 some (.inr x5)
def Si (some0:List Int):(Int×(List Bool))→St:=fun s=>[(6,A.val (Ag s.1)),(5,A.val ((slr true 1 V.bool) s.2)),(1,A.val ((slr false 1 Ag) (some0)))]
def Zu (_some0:List Int):(List Bool)→Tgt
 | s=>((Ex.exit 0),[5],[(5,A.val ((slr true 1 V.bool) s))])
theorem Akl {some0:List Int} (s:(Int×(List Bool))) (o:(Int×(List Bool)) ⊕ (List Bool)) (h:He some0 s=some o):vc Try.prog Z1 (C1 [6,5,1] (Si some0) (Zu some0) o) (Si some0 s):=by
 obtain ⟨x6,x5⟩:=s
 unfold He at h
 try dsimp only at h
 refine Len.map ?_
 refine Br.od h (fun p2 h=> ?_) (fun p2 h=> ?_)
 ·refine Len.map ?_
  refine Ask.o h fun p3 h=> ?_
  refine Elem.o (by first | omega | (simp [Aw] at * <;> omega)) ?_
  refine Len.map ?_
  refine Ask.o h fun p4 h=> ?_
  refine SetKids.one (fun _=>⟨rfl,rfl⟩) (true) (by rfl) (by first | omega | (simp [Aw] at * <;> omega)) ?_
  refine Ask.o h fun p5 h=> ?_
  cases h;exact ⟨rfl,rfl⟩
 cases h;exact ⟨rfl,rfl⟩
noncomputable def Pg (n0:Int) (some0:(List Int)):Option (List Bool):=
 ask ((0:Int)≤n0∧n0≤(↑LIM:Int)) <|
 (Al (He some0) ((0:Int),List.replicate n0.toNat false)).bind fun q6_5=>
 some q6_5
theorem As2 {n0:Int} {some0:(List Int)} {v:(List Bool)} (h:Pg n0 some0=some v):Ret Try.prog Aaf [Ag n0,(slr false 1 Ag) some0] ((slr true 1 V.bool) v):=by
 refine Bb Aux (Nat.le_of_ble_eq_true rfl) ?_
 unfold Pg at h
 refine Ask.o h fun p1 h=> ?_
 refine MkQ.o V.bool (false) rfl ?_
 refine LoopQ.o [6,5,1] (Si some0) (Zu some0) h (fun s o h=>Akl s o h) (by rfl) (fun _=>rfl) ?_
 rintro q6_5 h
 try dsimp only at h
 cases h;exact (by rfl)
end Go.Proofs.Ytmkgjnphianalaa.Ax
