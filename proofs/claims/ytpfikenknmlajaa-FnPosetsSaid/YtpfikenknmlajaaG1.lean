/-
 What the functions compute, as functions on plain data, and that the program does compute it; written by program.
-/
import Derived.Test.YtpfikenknmlajaaCode
namespace Go.Proofs.Ytpfikenknmlajaa.Ax
open Go
set_option maxRecDepth 100000
set_option maxHeartbeats 4000000
noncomputable def Wy (code0:(List Int)):Option Bool:=
 some (decide ((↑code0.length:Int)>(65536:Int)))
theorem Av6 {code0:(List Int)} {v:Bool} (h:Wy code0=some v):Ret Try.prog Acv [(slr false 1 (V.int IntKind.u8)) code0] (V.bool v):=by
 refine A6 Au8 (Nat.le_of_ble_eq_true rfl) ?_
 unfold Wy at h
 refine Len.map ?_
 cases h;exact (by rfl)
noncomputable def Gv (a0:List Int) (b0:List Int):Int→Option (Int ⊕ (Unit ⊕ Unit)):=fun x5=>
 if x5<(↑a0.length:Int) then
 ask ((0:Int)≤x5∧x5<(↑a0.length:Int)) <|
 ask ((0:Int)≤x5∧x5<(↑b0.length:Int)) <|
 if nth a0 x5.toNat≠nth b0 x5.toNat then
 some (.inr (.inl ()))
 else
 ask (InI (x5+(1:Int))) <|
 some (.inl (x5+(1:Int)))
 else
 some (.inr (.inr ()))
def Su (a0:List Int) (b0:List Int):Int→St:=fun s=>[(5,A.val (Af s)),(0,A.val ((slr false 1 Af) (a0))),(1,A.val ((slr false 1 Af) (b0)))]
def Aa6 (_a0:List Int) (_b0:List Int):(Unit ⊕ Unit)→Tgt
 | (.inl _s)=>(Ex.ret,[4],[(4,A.val (V.bool (false)))])
 | (.inr _s)=>((Ex.exit 0),[],[])
theorem Ama {a0:List Int} {b0:List Int} (x5:Int) (o:Int ⊕ (Unit ⊕ Unit)) (h:Gv a0 b0 x5=some o):vc Try.prog Aba (Cc [5,0,1] (Su a0 b0) (Aa6 a0 b0) o) (Su a0 b0 x5):=by
 unfold Gv at h
 try dsimp only at h
 refine Len.map<|Br.od h (fun p2 h=> ?_) (fun p2 h=> ?_)
 ·refine Len.map<|Ask.o h fun p3 h=>Elem.o (by first | omega | (simp [Ak] at * <;> omega))<|Len.map<|Ask.o h fun p4 h=>Elem.o (by first | omega | (simp [Ak] at * <;> omega))<|Br.on h (fun p5 h=> ?_) (fun p5 h=> ?_)
  ·cases h;exact ⟨rfl,rfl⟩
  refine Ask.o h fun p6 h=> ?_
  cases h;exact ⟨rfl,rfl⟩
 cases h;exact ⟨rfl,rfl⟩
noncomputable def Ic (a0:(List Int)) (b0:(List Int)):Option Bool:=
 if (↑a0.length:Int)≠(↑b0.length:Int) then
 some false
 else
 (Aj (Gv a0 b0) (0:Int)).bind fun t=>match t with
 | (.inl _)=>(some false)
 | (.inr _)=>(some true)
theorem S8 {a0:(List Int)} {b0:(List Int)} {v:Bool} (h:Ic a0 b0=some v):Ret Try.prog L3 [(slr false 1 Af) a0,(slr false 1 Af) b0] (V.bool v):=by
 refine A6 Atn (Nat.le_of_ble_eq_true rfl) ?_
 unfold Ic at h
 refine Len.map<|Len.map<|Br.on h (fun p1 h=> ?_) (fun p1 h=> ?_)
 ·cases h;exact (by rfl)
 refine LoopQ.o [5,0,1] (Su a0 b0) (Aa6 a0 b0) h (fun s o h=>Ama s o h) (by rfl) (by rintro (_ | _)<;>rfl) ?_
 rintro (⟨⟩ | ⟨⟩) h
 ·try dsimp only at h
  cases h;exact (by rfl)
 try dsimp only at h
 cases h;exact (by rfl)
noncomputable def Au (o0:(List (List Bool))) (x0:Int) (y0:Int):Option Bool:=
 if x0≠y0 then
 ask ((0:Int)≤x0∧x0<(↑o0.length:Int)) <|
 ask ((0:Int)≤y0∧y0<(↑(nth o0 x0.toNat).length:Int)) <|
 some (nth (nth o0 x0.toNat) y0.toNat)
 else
 some false
theorem Bo {o0:(List (List Bool))} {x0:Int} {y0:Int} {v:Bool} (h:Au o0 x0 y0=some v):Ret Try.prog Bf [(slr false 1 (slr false 1 V.bool)) o0,Af x0,Af y0] (V.bool v):=by
 refine A6 Ai0 (Nat.le_of_ble_eq_true rfl) ?_
 unfold Au at h
 refine Br.on h (fun p1 h=> ?_) (fun p1 h=> ?_)
 ·refine Br.yes<|Br.yes<|Len.map<|Ask.o h fun p2 h=>Elem.o (by first | omega | (simp [Ak] at * <;> omega))<|Br.yes<|Br.yes<|Br.yes<|Len.map<|Ask.o h fun p3 h=>Elem.o (by first | omega | (simp [Ak] at * <;> omega))<|Br.yes<|Br.yes ?_
  cases h;exact (by rfl)
 refine Br.no<|Br.no<|Br.no<|Br.no<|Br.no<|Br.no<|Br.no ?_
 cases h;exact (by rfl)
noncomputable def Hb (mask0:Int):(Int×(List Int))→Option ((Int×(List Int)) ⊕ (List Int)):=fun (x4,x3)=>
 ask ((0:Int)≤x4) <|
 if Adn mask0 x4>(0:Int) then
 ask ((0:Int)≤x4) <|
 if Ahh (Adn mask0 x4) (1:Int)=(1:Int) then
 ask ((x3).length+([x4]).length≤LIM) <|
 ask (InI (x4+(1:Int))) <|
 some (.inl (x4+(1:Int),x3++[x4]))
 else
 ask (InI (x4+(1:Int))) <|
 some (.inl (x4+(1:Int),x3))
 else
 some (.inr x3)
def Rd (mask0:Int):(Int×(List Int))→St:=fun s=>[(4,A.val (Af s.1)),(3,A.val ((slr true 1 Af) s.2)),(0,A.val (Af (mask0)))]
def Za (_mask0:Int):(List Int)→Tgt
 | s=>((Ex.exit 0),[3],[(3,A.val ((slr true 1 Af) s))])
theorem Akr {mask0:Int} (s:(Int×(List Int))) (o:(Int×(List Int)) ⊕ (List Int)) (h:Hb mask0 s=some o):vc Try.prog Yd (Cc [4,3,0] (Rd mask0) (Za mask0) o) (Rd mask0 s):=by
 obtain ⟨x4,x3⟩:=s
 unfold Hb at h
 try dsimp only at h
 refine Ask.o h fun p1 h=>Br.od h (fun p2 h=> ?_) (fun p2 h=> ?_)
 ·refine Ask.o h fun p3 h=>Br.oe h (fun p4 h=> ?_) (fun p4 h=> ?_)
  ·refine BslQ.o Af [x4] (by exact fun _=>⟨rfl,rfl⟩) (by first | rfl | (simp only [Aa,V.fz,fzL,V.up,upL,Ab,Ac,Ad,slr,List.cons_append,List.nil_append];done) | simp [Aa,V.fz,fzL,V.up,upL,Ab,Ac,Ad,slr])<|NoOwn.o (fun _=>rfl)<|AppQ.o (m:=1) Af (by exact fun _=>⟨rfl,rfl⟩) (x3) ([x4]) (by rfl) (by rfl) h fun h=>Ask.o h fun p5 h=> ?_
   cases h;exact ⟨rfl,rfl⟩
  refine Ask.o h fun p6 h=> ?_
  cases h;exact ⟨rfl,rfl⟩
 cases h;exact ⟨rfl,rfl⟩
noncomputable def Ms (mask0:Int):Option (List Int):=
 (Aj (Hb mask0) ((0:Int),Ar Int)).bind fun q7_3=>
 some q7_3
theorem Aqv {mask0:Int} {v:(List Int)} (h:Ms mask0=some v):Ret Try.prog Xv [Af mask0] ((slr true 1 Af) v):=by
 refine A6 Aqb (Nat.le_of_ble_eq_true rfl) ?_
 unfold Ms at h
 refine BslQ.o Af (Ar Int) (by exact fun _=>⟨rfl,rfl⟩) (by first | rfl | (simp only [Aa,V.fz,fzL,V.up,upL,Ab,Ac,Ad,slr,List.cons_append,List.nil_append];done) | simp [Aa,V.fz,fzL,V.up,upL,Ab,Ac,Ad,slr])<|LoopQ.o [4,3,0] (Rd mask0) (Za mask0) h (fun s o h=>Akr s o h) (by rfl) (fun _=>rfl) ?_
 rintro q7_3 h
 try dsimp only at h
 cases h;exact (by rfl)
noncomputable def C5 (s0:List Int) (t0:List Int):Int→Option (Int ⊕ (Int ⊕ Unit)):=fun x5=>
 ((if x5<(↑s0.length:Int) then
 if x5<(↑t0.length:Int) then
 some (.inl ())
 else
 some (.inr ())
 else
 some (.inr ()):Option (Unit ⊕ Unit))).bind fun t=>match t with
 | (.inl _)=>(ask ((0:Int)≤x5∧x5<(↑s0.length:Int)) <|
 ask ((0:Int)≤x5∧x5<(↑t0.length:Int)) <|
 if nth s0 x5.toNat≠nth t0 x5.toNat then
 ask ((0:Int)≤x5∧x5<(↑s0.length:Int)) <|
 ask ((0:Int)≤x5∧x5<(↑t0.length:Int)) <|
 if nth s0 x5.toNat<nth t0 x5.toNat then
 some (.inr (.inl (-1:Int)))
 else
 some (.inr (.inl (1:Int)))
 else
 ask (InI (x5+(1:Int))) <|
 some (.inl (x5+(1:Int))))
 | (.inr _)=>(some (.inr (.inr ())))
def I8 (s0:List Int) (t0:List Int):Int→St:=fun s=>[(5,A.val (Af s)),(0,A.val ((slr false 1 Af) (s0))),(1,A.val ((slr false 1 Af) (t0)))]
def N8 (s0:List Int) (t0:List Int):(Int ⊕ Unit)→Tgt
 | (.inl s)=>(Ex.ret,[4],[(4,A.val (Af s))])
 | (.inr _s)=>((Ex.exit 0),[0,1],[(0,A.val ((slr false 1 Af) (s0))),(1,A.val ((slr false 1 Af) (t0)))])
theorem Zq {s0:List Int} {t0:List Int} (x5:Int) (o:Int ⊕ (Int ⊕ Unit)) (h:C5 s0 t0 x5=some o):vc Try.prog P8 (Cc [5,0,1] (I8 s0 t0) (N8 s0 t0) o) (I8 s0 t0 x5):=by
 unfold C5 at h
 try dsimp only at h
 refine CutQ.o (fun t:(Unit ⊕ Unit)=>match t with | (.inl s)=>(Ex.normal,[5,0,1],[(5,A.val (Af (x5))),(0,A.val ((slr false 1 Af) (s0))),(1,A.val ((slr false 1 Af) (t0)))]) | (.inr s)=>((Ex.exit 0),[0,1],[(0,A.val ((slr false 1 Af) (s0))),(1,A.val ((slr false 1 Af) (t0)))])) h ?_ ?_
 ·intro t h
  refine Len.map<|Br.od h (fun p1 h=> ?_) (fun p1 h=> ?_)
  ·refine Br.yes<|Br.yes<|Len.map<|Br.yes<|Br.yes<|Br.od h (fun p2 h=> ?_) (fun p2 h=> ?_)
   ·cases h;exact ⟨rfl,rfl⟩
   cases h;exact ⟨rfl,rfl⟩
  refine Br.no<|Br.no<|Br.no<|Br.no<|Br.no ?_
  cases h;exact ⟨rfl,rfl⟩
 rintro (⟨⟩ | ⟨⟩) h
 ·try dsimp only at h
  refine Len.map<|Ask.o h fun p4 h=>Elem.o (by first | omega | (simp [Ak] at * <;> omega))<|Len.map<|Ask.o h fun p5 h=>Elem.o (by first | omega | (simp [Ak] at * <;> omega))<|Br.on h (fun p6 h=> ?_) (fun p6 h=> ?_)
  ·refine Len.map<|Ask.o h fun p7 h=>Elem.o (by first | omega | (simp [Ak] at * <;> omega))<|Len.map<|Ask.o h fun p8 h=>Elem.o (by first | omega | (simp [Ak] at * <;> omega))<|Br.od h (fun p9 h=> ?_) (fun p9 h=> ?_)
   ·cases h;exact ⟨rfl,rfl⟩
   cases h;exact ⟨rfl,rfl⟩
  refine Ask.o h fun p10 h=> ?_
  cases h;exact ⟨rfl,rfl⟩
 try dsimp only at h
 cases h;exact ⟨rfl,rfl⟩
noncomputable def G1 (s0:(List Int)) (t0:(List Int)):Option Int:=
 (Aj (C5 s0 t0) (0:Int)).bind fun t=>match t with
 | (.inl q11_4)=>(some q11_4)
 | (.inr _)=>(if (↑s0.length:Int)<(↑t0.length:Int) then
 some (-1:Int)
 else
 if (↑s0.length:Int)>(↑t0.length:Int) then
 some (1:Int)
 else
 some (0:Int))
theorem Aei {s0:(List Int)} {t0:(List Int)} {v:Int} (h:G1 s0 t0=some v):Ret Try.prog Ml [(slr false 1 Af) s0,(slr false 1 Af) t0] (Af v):=by
 refine A6 Aeh (Nat.le_of_ble_eq_true rfl) ?_
 unfold G1 at h
 refine LoopQ.o [5,0,1] (I8 s0 t0) (N8 s0 t0) h (fun s o h=>Zq s o h) (by rfl) (by rintro (_ | _)<;>rfl) ?_
 rintro (q11_4 | ⟨⟩) h
 ·try dsimp only at h
  cases h;exact (by rfl)
 try dsimp only at h
 refine Len.map<|Len.map<|Br.od h (fun p12 h=> ?_) (fun p12 h=> ?_)
 ·cases h;exact (by rfl)
 refine Len.map<|Len.map<|Br.od h (fun p13 h=> ?_) (fun p13 h=> ?_)
 ·cases h;exact (by rfl)
 cases h;exact (by rfl)
noncomputable def J5 (a0:Int) (b0:Int):Option Int:=
 if a0>b0 then
 some a0
 else
 some b0
theorem Aev {a0:Int} {b0:Int} {v:Int} (h:J5 a0 b0=some v):Ret Try.prog Rh [Af a0,Af b0] (Af v):=by
 refine A6 Ap1 (Nat.le_of_ble_eq_true rfl) ?_
 unfold J5 at h
 refine Br.od h (fun p1 h=> ?_) (fun p1 h=> ?_)
 ·cases h;exact (by rfl)
 cases h;exact (by rfl)
noncomputable def F2 (n0:Int):(Int×(List (List Bool)))→Option ((Int×(List (List Bool))) ⊕ (List (List Bool))):=fun (x9,x3)=>
 if x9<(↑n0.toNat:Int) then
 ask ((0:Int)≤n0∧n0≤(↑LIM:Int)) <|
 ask ((0:Int)≤x9∧x9<(↑x3.length:Int)) <|
 ask (InI (x9+(1:Int))) <|
 some (.inl (x9+(1:Int),x3.set x9.toNat (List.replicate n0.toNat false)))
 else
 some (.inr x3)
def M3 (n0:Int):(Int×(List (List Bool)))→St:=fun s=>[(9,A.val (Af s.1)),(8,A.val (Af ((↑n0.toNat:Int)))),(3,A.val ((slr true 1 (slr true 1 V.bool)) s.2)),(0,A.val (Af (n0)))]
def U7 (_n0:Int):(List (List Bool))→Tgt
 | s=>((Ex.exit 0),[3],[(3,A.val ((slr true 1 (slr true 1 V.bool)) s))])
theorem Afk {n0:Int} (s:(Int×(List (List Bool)))) (o:(Int×(List (List Bool))) ⊕ (List (List Bool))) (h:F2 n0 s=some o):vc Try.prog Tp (Cc [9,8,3,0] (M3 n0) (U7 n0) o) (M3 n0 s):=by
 obtain ⟨x9,x3⟩:=s
 unfold F2 at h
 try dsimp only at h
 refine Br.od h (fun p2 h=> ?_) (fun p2 h=> ?_)
 ·refine Ask.o h fun p3 h=>MkQ.o V.bool (false) rfl<|Len.map<|Ask.o h fun p4 h=>SetKids.one (fun _=>⟨rfl,rfl⟩) (List.replicate n0.toNat false) (by rfl) (by first | omega | (simp [Ak] at * <;> omega))<|Ask.o h fun p5 h=> ?_
  cases h;exact ⟨rfl,rfl⟩
 cases h;exact ⟨rfl,rfl⟩
noncomputable def Gw (n0:Int):Option (List (List Bool)):=
 ask ((0:Int)≤n0∧n0≤(↑LIM:Int)) <|
 (Aj (F2 n0) ((0:Int),List.replicate n0.toNat (Ar Bool))).bind fun q6_3=>
 some q6_3
theorem So {n0:Int} {v:(List (List Bool))} (h:Gw n0=some v):Ret Try.prog J2 [Af n0] ((slr true 1 (slr true 1 V.bool)) v):=by
 refine A6 Aly (Nat.le_of_ble_eq_true rfl) ?_
 unfold Gw at h
 refine Ask.o h fun p1 h=>MkQ.o (slr true 1 V.bool) (Ar Bool) rfl<|Len.mrep<|LoopQ.o [9,8,3,0] (M3 n0) (U7 n0) h (fun s o h=>Afk s o h) (by rfl) (fun _=>rfl) ?_
 rintro q6_3 h
 try dsimp only at h
 cases h;exact (by rfl)
noncomputable def Bn (o0:List (List Bool)) (x8:Int) (x21:Int):Int→Option (Int ⊕ (Unit ⊕ Unit)):=fun x47=>
 if x47<(↑o0.length:Int) then
 ask ((0:Int)≤x8∧x8<(↑o0.length:Int)) <|
 ask ((0:Int)≤x21∧x21<(↑(nth o0 x8.toNat).length:Int)) <|
 if (nth (nth o0 x8.toNat) x21.toNat)=true then
 ask ((0:Int)≤x21∧x21<(↑o0.length:Int)) <|
 ask ((0:Int)≤x47∧x47<(↑(nth o0 x21.toNat).length:Int)) <|
 if (nth (nth o0 x21.toNat) x47.toNat)=true then
 ask ((0:Int)≤x8∧x8<(↑o0.length:Int)) <|
 ask ((0:Int)≤x47∧x47<(↑(nth o0 x8.toNat).length:Int)) <|
 if (nth (nth o0 x8.toNat) x47.toNat)=true then
 ask (InI (x47+(1:Int))) <|
 some (.inl (x47+(1:Int)))
 else
 some (.inr (.inl ()))
 else
 ask (InI (x47+(1:Int))) <|
 some (.inl (x47+(1:Int)))
 else
 ask (InI (x47+(1:Int))) <|
 some (.inl (x47+(1:Int)))
 else
 some (.inr (.inr ()))
def It (o0:List (List Bool)) (x8:Int) (x21:Int):Int→St:=fun s=>[(47,A.val (Af s)),(46,A.val (Af ((↑o0.length:Int)))),(4,A.val (Af (x21))),(21,A.val (Af (x21))),(20,A.val (Af ((↑o0.length:Int)))),(3,A.val (Af (x8))),(8,A.val (Af (x8))),(7,A.val (Af ((↑o0.length:Int)))),(0,A.val ((slr false 1 (slr false 1 V.bool)) (o0)))]
def Ns (o0:List (List Bool)) (x8:Int) (x21:Int):(Unit ⊕ Unit)→Tgt
 | (.inl _s)=>(Ex.ret,[2],[(2,A.val (V.bool (false)))])
 | (.inr _s)=>((Ex.exit 4),[21,20,3,8,7,0],[(21,A.val (Af (x21))),(20,A.val (Af ((↑o0.length:Int)))),(3,A.val (Af (x8))),(8,A.val (Af (x8))),(7,A.val (Af ((↑o0.length:Int)))),(0,A.val ((slr false 1 (slr false 1 V.bool)) (o0)))])
theorem Y0 {o0:List (List Bool)} {x8:Int} {x21:Int} (x47:Int) (o:Int ⊕ (Unit ⊕ Unit)) (h:Bn o0 x8 x21 x47=some o):vc Try.prog Nu (Cc [47,46,4,21,20,3,8,7,0] (It o0 x8 x21) (Ns o0 x8 x21) o) (It o0 x8 x21 x47):=by
 unfold Bn at h
 try dsimp only at h
 refine Br.od h (fun p14 h=> ?_) (fun p14 h=> ?_)
 ·refine Len.map<|Ask.o h fun p15 h=>Elem.o (by first | omega | (simp [Ak] at * <;> omega))<|Len.map<|Ask.o h fun p16 h=>Elem.o (by first | omega | (simp [Ak] at * <;> omega))<|Br.ob h (fun p17 h=> ?_) (fun p17 h=> ?_)
  ·refine Br.yes<|Br.yes<|Len.map<|Ask.o h fun p18 h=>Elem.o (by first | omega | (simp [Ak] at * <;> omega))<|Br.yes<|Br.yes<|Br.yes<|Len.map<|Ask.o h fun p19 h=>Elem.o (by first | omega | (simp [Ak] at * <;> omega))<|Br.yes<|Br.yes<|Br.ob h (fun p20 h=> ?_) (fun p20 h=> ?_)
   ·refine Br.yes<|Br.yes<|Len.map<|Ask.o h fun p21 h=>Elem.o (by first | omega | (simp [Ak] at * <;> omega))<|Br.yes<|Br.yes<|Br.yes<|Len.map<|Ask.o h fun p22 h=>Elem.o (by first | omega | (simp [Ak] at * <;> omega))<|Br.yes<|Br.yes<|Br.yes<|Br.flip<|Br.ob h (fun p23 h=> ?_) (fun p23 h=> ?_)
    ·refine Ask.o h fun p24 h=> ?_
     cases h;exact ⟨rfl,rfl⟩
    cases h;exact ⟨rfl,rfl⟩
   refine Br.no<|Br.no<|Br.no<|Br.no<|Br.no<|Br.no<|Br.no<|Br.no<|Br.no<|Ask.o h fun p25 h=> ?_
   cases h;exact ⟨rfl,rfl⟩
  refine Br.no<|Br.no<|Br.no<|Br.no<|Br.no<|Br.no<|Br.no<|Br.no<|Br.no<|Br.no<|Br.no<|Br.no<|Br.no<|Br.no<|Br.no<|Br.no<|Br.no<|Ask.o h fun p26 h=> ?_
  cases h;exact ⟨rfl,rfl⟩
 cases h;exact ⟨rfl,rfl⟩
noncomputable def B7 (o0:List (List Bool)) (x8:Int):Int→Option (Int ⊕ (Unit ⊕ Unit)):=fun x21=>
 if x21<(↑o0.length:Int) then
 ((if x8≠x21 then
 ask ((0:Int)≤x8∧x8<(↑o0.length:Int)) <|
 ask ((0:Int)≤x21∧x21<(↑(nth o0 x8.toNat).length:Int)) <|
 if (nth (nth o0 x8.toNat) x21.toNat)=true then
 ask ((0:Int)≤x21∧x21<(↑o0.length:Int)) <|
 ask ((0:Int)≤x8∧x8<(↑(nth o0 x21.toNat).length:Int)) <|
 if (nth (nth o0 x21.toNat) x8.toNat)=true then
 some (.inl ())
 else
 some (.inr ())
 else
 some (.inr ())
 else
 some (.inr ()):Option (Unit ⊕ Unit))).bind fun t=>match t with
 | (.inl _)=>(some (.inr (.inl ())))
 | (.inr _)=>((Aj (Bn o0 x8 x21) (0:Int)).bind fun t=>match t with
 | (.inl _)=>(some (.inr (.inl ())))
 | (.inr _)=>(ask (InI (x21+(1:Int))) <|
 some (.inl (x21+(1:Int)))))
 else
 some (.inr (.inr ()))
def I1 (o0:List (List Bool)) (x8:Int):Int→St:=fun s=>[(21,A.val (Af s)),(20,A.val (Af ((↑o0.length:Int)))),(3,A.val (Af (x8))),(8,A.val (Af (x8))),(7,A.val (Af ((↑o0.length:Int)))),(0,A.val ((slr false 1 (slr false 1 V.bool)) (o0)))]
def Nj (o0:List (List Bool)) (x8:Int):(Unit ⊕ Unit)→Tgt
 | (.inl _s)=>(Ex.ret,[2],[(2,A.val (V.bool (false)))])
 | (.inr _s)=>((Ex.exit 2),[8,7,0],[(8,A.val (Af (x8))),(7,A.val (Af ((↑o0.length:Int)))),(0,A.val ((slr false 1 (slr false 1 V.bool)) (o0)))])
theorem Zb {o0:List (List Bool)} {x8:Int} (x21:Int) (o:Int ⊕ (Unit ⊕ Unit)) (h:B7 o0 x8 x21=some o):vc Try.prog Ni (Cc [21,20,3,8,7,0] (I1 o0 x8) (Nj o0 x8) o) (I1 o0 x8 x21):=by
 unfold B7 at h
 try dsimp only at h
 refine Br.od h (fun p5 h=> ?_) (fun p5 h=> ?_)
 ·refine CutQ.o (fun t:(Unit ⊕ Unit)=>match t with | (.inl s)=>(Ex.ret,[2],[(2,A.val (V.bool (false)))]) | (.inr s)=>(Ex.normal,[4,21,20,3,8,7,0],[(4,A.val (Af (x21))),(21,A.val (Af (x21))),(20,A.val (Af ((↑o0.length:Int)))),(3,A.val (Af (x8))),(8,A.val (Af (x8))),(7,A.val (Af ((↑o0.length:Int)))),(0,A.val ((slr false 1 (slr false 1 V.bool)) (o0)))])) h ?_ ?_
  ·intro t h
   refine Br.on h (fun p6 h=> ?_) (fun p6 h=> ?_)
   ·refine Br.yes<|Br.yes<|Len.map<|Ask.o h fun p7 h=>Elem.o (by first | omega | (simp [Ak] at * <;> omega))<|Br.yes<|Br.yes<|Br.yes<|Len.map<|Ask.o h fun p8 h=>Elem.o (by first | omega | (simp [Ak] at * <;> omega))<|Br.yes<|Br.yes<|Br.ob h (fun p9 h=> ?_) (fun p9 h=> ?_)
    ·refine Br.yes<|Br.yes<|Len.map<|Ask.o h fun p10 h=>Elem.o (by first | omega | (simp [Ak] at * <;> omega))<|Br.yes<|Br.yes<|Br.yes<|Len.map<|Ask.o h fun p11 h=>Elem.o (by first | omega | (simp [Ak] at * <;> omega))<|Br.yes<|Br.yes<|Br.ob h (fun p12 h=> ?_) (fun p12 h=> ?_)
     ·cases h;exact ⟨rfl,rfl⟩
     cases h;exact ⟨rfl,rfl⟩
    refine Br.no<|Br.no<|Br.no<|Br.no<|Br.no<|Br.no<|Br.no<|Br.no ?_
    cases h;exact ⟨rfl,rfl⟩
   refine Br.no<|Br.no<|Br.no<|Br.no<|Br.no<|Br.no<|Br.no<|Br.no<|Br.no<|Br.no<|Br.no<|Br.no<|Br.no<|Br.no<|Br.no<|Br.no ?_
   cases h;exact ⟨rfl,rfl⟩
  rintro (⟨⟩ | ⟨⟩) h
  ·try dsimp only at h
   cases h;exact ⟨rfl,rfl⟩
  try dsimp only at h
  refine Len.map<|LoopQ.o [47,46,4,21,20,3,8,7,0] (It o0 x8 x21) (Ns o0 x8 x21) h (fun s o h=>Y0 s o h) (by rfl) (by rintro (_ | _)<;>rfl) ?_
  rintro (⟨⟩ | ⟨⟩) h
  ·try dsimp only at h
   cases h;exact ⟨rfl,rfl⟩
  try dsimp only at h
  refine Ask.o h fun p28 h=> ?_
  cases h;exact ⟨rfl,rfl⟩
 cases h;exact ⟨rfl,rfl⟩
noncomputable def Cp (o0:List (List Bool)):Int→Option (Int ⊕ (Unit ⊕ Unit)):=fun x8=>
 if x8<(↑o0.length:Int) then
 ask ((0:Int)≤x8∧x8<(↑o0.length:Int)) <|
 ask ((0:Int)≤x8∧x8<(↑(nth o0 x8.toNat).length:Int)) <|
 if (nth (nth o0 x8.toNat) x8.toNat)=true then
 (Aj (B7 o0 x8) (0:Int)).bind fun t=>match t with
 | (.inl _)=>(some (.inr (.inl ())))
 | (.inr _)=>(ask (InI (x8+(1:Int))) <|
 some (.inl (x8+(1:Int))))
 else
 some (.inr (.inl ()))
 else
 some (.inr (.inr ()))
def I3 (o0:List (List Bool)):Int→St:=fun s=>[(8,A.val (Af s)),(7,A.val (Af ((↑o0.length:Int)))),(0,A.val ((slr false 1 (slr false 1 V.bool)) (o0)))]
def Nf (_o0:List (List Bool)):(Unit ⊕ Unit)→Tgt
 | (.inl _s)=>(Ex.ret,[2],[(2,A.val (V.bool (false)))])
 | (.inr _s)=>((Ex.exit 0),[],[])
theorem Zd {o0:List (List Bool)} (x8:Int) (o:Int ⊕ (Unit ⊕ Unit)) (h:Cp o0 x8=some o):vc Try.prog Nk (Cc [8,7,0] (I3 o0) (Nf o0) o) (I3 o0 x8):=by
 unfold Cp at h
 try dsimp only at h
 refine Br.od h (fun p1 h=> ?_) (fun p1 h=> ?_)
 ·refine Len.map<|Ask.o h fun p2 h=>Elem.o (by first | omega | (simp [Ak] at * <;> omega))<|Len.map<|Ask.o h fun p3 h=>Elem.o (by first | omega | (simp [Ak] at * <;> omega))<|Br.flip<|Br.ob h (fun p4 h=> ?_) (fun p4 h=> ?_)
  ·refine Len.map<|LoopQ.o [21,20,3,8,7,0] (I1 o0 x8) (Nj o0 x8) h (fun s o h=>Zb s o h) (by rfl) (by rintro (_ | _)<;>rfl) ?_
   rintro (⟨⟩ | ⟨⟩) h
   ·try dsimp only at h
    cases h;exact ⟨rfl,rfl⟩
   try dsimp only at h
   refine Ask.o h fun p30 h=> ?_
   cases h;exact ⟨rfl,rfl⟩
  cases h;exact ⟨rfl,rfl⟩
 cases h;exact ⟨rfl,rfl⟩
noncomputable def El (o0:(List (List Bool))):Option Bool:=
 (Aj (Cp o0) (0:Int)).bind fun t=>match t with
 | (.inl _)=>(some false)
 | (.inr _)=>(some true)
theorem Rz {o0:(List (List Bool))} {v:Bool} (h:El o0=some v):Ret Try.prog Ia [(slr false 1 (slr false 1 V.bool)) o0] (V.bool v):=by
 refine A6 Abu (Nat.le_of_ble_eq_true rfl) ?_
 unfold El at h
 refine Len.map<|LoopQ.o [8,7,0] (I3 o0) (Nf o0) h (fun s o h=>Zd s o h) (by rfl) (by rintro (_ | _)<;>rfl) ?_
 rintro (⟨⟩ | ⟨⟩) h
 ·try dsimp only at h
  cases h;exact (by rfl)
 try dsimp only at h
 cases h;exact (by rfl)
end Go.Proofs.Ytpfikenknmlajaa.Ax
