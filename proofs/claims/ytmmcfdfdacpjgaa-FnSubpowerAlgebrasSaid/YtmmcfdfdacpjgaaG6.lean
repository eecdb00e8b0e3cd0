/-
 What the functions compute, as functions on plain data, and that the program does compute it; written by program.
-/
import Derived.Test.YtmmcfdfdacpjgaaCode
import Derived.Test.YtmmcfdfdacpjgaaG1
import Derived.Test.YtmmcfdfdacpjgaaG2
import Derived.Test.YtmmcfdfdacpjgaaG4
import Derived.Test.YtmmcfdfdacpjgaaG5
namespace Go.Proofs.Ytmmcfdfdacpjgaa.Ax
open Go
set_option maxRecDepth 100000
set_option maxHeartbeats 4000000
noncomputable def C7 (a0:SAlgebra):Int→Option (Int ⊕ (Unit ⊕ Unit)):=fun x22=>
 if x22<(↑a0.Ops.length:Int) then
 ask ((0:Int)≤x22∧x22<(↑a0.Ops.length:Int)) <|
 (Pp (nth a0.Ops x22.toNat) (a0.Size)).bind fun r7=>
 if (r7)=true then
 ask (InI (x22+(1:Int))) <|
 some (.inl (x22+(1:Int)))
 else
 some (.inr (.inl ()))
 else
 some (.inr (.inr ()))
def K0 (a0:SAlgebra):Int→St:=fun s=>[(22,A.val (Ae s)),(21,A.val (Ae ((↑a0.Ops.length:Int)))),(20,A.val (slr false 2 (Aw false) a0.Ops)),(1,A.val (rP true (Af false) a0))]
def Q1 (_a0:SAlgebra):(Unit ⊕ Unit)→Tgt
 | (.inl _s)=>(Ex.ret,[2],[(2,A.val (V.bool false))])
 | (.inr _s)=>((Ex.exit 0),[],[])
theorem Aah {a0} (x22) o (h:C7 a0 x22=some o):vc Try.prog Qs (Co [22,21,20,1] (K0 a0) (Q1 a0) o) (K0 a0 x22):=by
 unfold C7 at h
 try dsimp only at h
 conv=>whnf
 refine Br.od h (fun p5 h=> ?_) (fun p5 h=> ?_)
 ·conv=>whnf
  refine Len.map ?_
  conv=>whnf
  refine Ask.o h fun p6 h=> ?_
  conv=>whnf
  refine Elem.o (by first | omega | (simp [At] at * <;> omega)) ?_
  conv=>whnf
  refine SetKids.lit rfl ?_
  conv=>whnf
  refine Cells.lit rfl rfl ?_
  conv=>whnf
  refine Cells.lit rfl rfl ?_
  conv=>whnf
  refine CallQ.o V.bool (by rfl) h (fun r h=>Aru h) (fun r7 h=> ?_)
  conv=>whnf
  refine Br.flip ?_
  conv=>whnf
  refine Br.ob h (fun p8 h=> ?_) (fun p8 h=> ?_)
  ·conv=>whnf
   refine Ask.o h fun p9 h=> ?_
   conv=>whnf
   cases h;exact ⟨rfl,rfl⟩
  conv=>whnf
  cases h;exact ⟨rfl,rfl⟩
 conv=>whnf
 cases h;exact ⟨rfl,rfl⟩
noncomputable def Cp (a0:SAlgebra):Option Bool:=
 ((if a0.Size<(1:Int) then
 some (.inl ())
 else
 if a0.Size>(8:Int) then
 some (.inl ())
 else
 if (↑a0.Ops.length:Int)>(4:Int) then
 some (.inl ())
 else
 some (.inr ()):Option (Unit ⊕ Unit))).bind fun t=>match t with
 | (.inl _)=>(some false)
 | (.inr _)=>((Am (C7 a0) (0:Int)).bind fun t=>match t with
 | (.inl _)=>(some false)
 | (.inr _)=>(some true))
theorem Gb {a0} {v} (h:Cp a0=some v):Ret Try.prog Du [(Af false) a0] (V.bool v):=by
 refine Ba Afl (Nat.le_of_ble_eq_true rfl) ?_
 unfold Cp at h
 conv=>whnf
 refine CutQ.o (fun t:(Unit ⊕ Unit)=>match t with | (.inl s)=>(Ex.ret,[2],[(2,A.val (V.bool (false)))]) | (.inr s)=>(Ex.normal,[1],[(1,A.val ((rP true (Af false)) (a0)))])) h ?_ ?_
 ·intro t h
  conv=>whnf
  refine Cells.lit rfl rfl ?_
  conv=>whnf
  refine Br.od h (fun p1 h=> ?_) (fun p1 h=> ?_)
  ·conv=>whnf
   refine Br.yes ?_
   conv=>whnf
   refine Br.yes ?_
   conv=>whnf
   refine Br.yes ?_
   conv=>whnf
   refine Br.yes ?_
   conv=>whnf
   refine Br.yes ?_
   conv=>whnf
   refine Br.yes ?_
   conv=>whnf
   refine Br.yes ?_
   conv=>whnf
   refine Br.yes ?_
   conv=>whnf
   refine Br.yes ?_
   conv=>whnf
   cases h;exact ⟨rfl,rfl⟩
  conv=>whnf
  refine Br.no ?_
  conv=>whnf
  refine Cells.lit rfl rfl ?_
  conv=>whnf
  refine Br.no ?_
  conv=>whnf
  refine Br.no ?_
  conv=>whnf
  refine Br.od h (fun p2 h=> ?_) (fun p2 h=> ?_)
  ·conv=>whnf
   refine Br.yes ?_
   conv=>whnf
   refine Br.yes ?_
   conv=>whnf
   refine Br.yes ?_
   conv=>whnf
   refine Br.yes ?_
   conv=>whnf
   refine Br.yes ?_
   conv=>whnf
   cases h;exact ⟨rfl,rfl⟩
  conv=>whnf
  refine Br.no ?_
  conv=>whnf
  refine Cells.lit rfl rfl ?_
  conv=>whnf
  refine Br.no ?_
  conv=>whnf
  refine Len.map ?_
  conv=>whnf
  refine Br.no ?_
  conv=>whnf
  refine Br.no ?_
  conv=>whnf
  refine Br.od h (fun p3 h=> ?_) (fun p3 h=> ?_)
  ·conv=>whnf
   cases h;exact ⟨rfl,rfl⟩
  conv=>whnf
  cases h;exact ⟨rfl,rfl⟩
 rintro (⟨⟩ | ⟨⟩) h
 ·try dsimp only at h
  conv=>whnf
  cases h;exact (by rfl)
 try dsimp only at h
 conv=>whnf
 refine Cells.lit rfl rfl ?_
 conv=>whnf
 refine Len.map ?_
 conv=>whnf
 refine LoopQ.o [22,21,20,1] (K0 a0) (Q1 a0) h (fun s o h=>Aah s o h) (by rfl) (by rintro (_ | _)<;>rfl) ?_
 rintro (⟨⟩ | ⟨⟩) h
 ·try dsimp only at h
  conv=>whnf
  cases h;exact (by rfl)
 try dsimp only at h
 conv=>whnf
 cases h;exact (by rfl)
noncomputable def Em (a0:SAlgebra):Int→Option (Int ⊕ (Unit ⊕ Unit)):=fun x3=>
 if x3<(↑a0.Ops.length:Int) then
 ask ((0:Int)≤x3∧x3<(↑a0.Ops.length:Int)) <|
 (Pw (a0.Size) (nth a0.Ops x3.toNat)).bind fun r7=>
 if (r7)=true then
 ask (InI (x3+(1:Int))) <|
 some (.inl (x3+(1:Int)))
 else
 some (.inr (.inl ()))
 else
 some (.inr (.inr ()))
def Oo (a0:SAlgebra):Int→St:=fun s=>[(3,A.val (Ae s)),(1,A.val (rP true (Af false) a0))]
def Vq (_a0:SAlgebra):(Unit ⊕ Unit)→Tgt
 | (.inl _s)=>(Ex.ret,[2],[(2,A.val (V.bool false))])
 | (.inr _s)=>((Ex.exit 0),[],[])
theorem Afn {a0} (x3) o (h:Em a0 x3=some o):vc Try.prog V7 (Co [3,1] (Oo a0) (Vq a0) o) (Oo a0 x3):=by
 unfold Em at h
 try dsimp only at h
 conv=>whnf
 refine Cells.lit rfl rfl ?_
 conv=>whnf
 refine Len.map ?_
 conv=>whnf
 refine Br.od h (fun p5 h=> ?_) (fun p5 h=> ?_)
 ·conv=>whnf
  refine Cells.lit rfl rfl ?_
  conv=>whnf
  refine Cells.lit rfl rfl ?_
  conv=>whnf
  refine Len.map ?_
  conv=>whnf
  refine Ask.o h fun p6 h=> ?_
  conv=>whnf
  refine Elem.o (by first | omega | (simp [At] at * <;> omega)) ?_
  conv=>whnf
  refine CallQ.o V.bool (by rfl) h (fun r h=>Ar7 h) (fun r7 h=> ?_)
  conv=>whnf
  refine Br.flip ?_
  conv=>whnf
  refine Br.ob h (fun p8 h=> ?_) (fun p8 h=> ?_)
  ·conv=>whnf
   refine Ask.o h fun p9 h=> ?_
   conv=>whnf
   cases h;exact ⟨rfl,rfl⟩
  conv=>whnf
  cases h;exact ⟨rfl,rfl⟩
 conv=>whnf
 cases h;exact ⟨rfl,rfl⟩
noncomputable def Hj (a0:SAlgebra):Option Bool:=
 (((Ec (a0.Size) ((1:Int)) ((8:Int))).bind fun r1=>
 if (r1)=true then
 if (↑a0.Ops.length:Int)>(4:Int) then
 some (.inl ())
 else
 some (.inr ())
 else
 some (.inl ()):Option (Unit ⊕ Unit))).bind fun t=>match t with
 | (.inl _)=>(some false)
 | (.inr _)=>((Am (Em a0) (0:Int)).bind fun t=>match t with
 | (.inl _)=>(some false)
 | (.inr _)=>(some true))
theorem Uc {a0} {v} (h:Hj a0=some v):Ret Try.prog K3 [(Af false) a0] (V.bool v):=by
 refine Ba Alm (Nat.le_of_ble_eq_true rfl) ?_
 unfold Hj at h
 conv=>whnf
 refine CutQ.o (fun t:(Unit ⊕ Unit)=>match t with | (.inl s)=>(Ex.ret,[2],[(2,A.val (V.bool (false)))]) | (.inr s)=>(Ex.normal,[1],[(1,A.val ((rP true (Af false)) (a0)))])) h ?_ ?_
 ·intro t h
  conv=>whnf
  refine Cells.lit rfl rfl ?_
  conv=>whnf
  refine CallQ.o V.bool (by rfl) h (fun r h=>Ib h) (fun r1 h=> ?_)
  conv=>whnf
  refine Br.flip ?_
  conv=>whnf
  refine Br.ob h (fun p2 h=> ?_) (fun p2 h=> ?_)
  ·conv=>whnf
   refine Br.no ?_
   conv=>whnf
   refine Cells.lit rfl rfl ?_
   conv=>whnf
   refine Br.no ?_
   conv=>whnf
   refine Len.map ?_
   conv=>whnf
   refine Br.no ?_
   conv=>whnf
   refine Br.no ?_
   conv=>whnf
   refine Br.od h (fun p3 h=> ?_) (fun p3 h=> ?_)
   ·conv=>whnf
    cases h;exact ⟨rfl,rfl⟩
   conv=>whnf
   cases h;exact ⟨rfl,rfl⟩
  conv=>whnf
  refine Br.yes ?_
  conv=>whnf
  refine Br.yes ?_
  conv=>whnf
  refine Br.yes ?_
  conv=>whnf
  refine Br.yes ?_
  conv=>whnf
  refine Br.yes ?_
  conv=>whnf
  cases h;exact ⟨rfl,rfl⟩
 rintro (⟨⟩ | ⟨⟩) h
 ·try dsimp only at h
  conv=>whnf
  cases h;exact (by rfl)
 try dsimp only at h
 conv=>whnf
 refine LoopQ.o [3,1] (Oo a0) (Vq a0) h (fun s o h=>Afn s o h) (by rfl) (by rintro (_ | _)<;>rfl) ?_
 rintro (⟨⟩ | ⟨⟩) h
 ·try dsimp only at h
  conv=>whnf
  cases h;exact (by rfl)
 try dsimp only at h
 conv=>whnf
 cases h;exact (by rfl)
noncomputable def Bc (c0:Sl1Cur) (list0:(List Int)):Option (Int×Sl1Cur):=
 (A7 (c0) ((↑list0.length:Int))).bind fun (r1,u2)=>
 ask ((0:Int)≤r1∧r1<(↑list0.length:Int)) <|
 some (nth list0 r1.toNat,u2)
theorem Bj {c0} {list0} {v} (h:Bc c0 list0=some v):Se Try.prog Bk [(rP true (Aj false)) c0,(slr false 1 Ae) list0] (Ae v.1) 0 (rP true (Aj false) v.2):=by
 refine Q9 Ab9 (Nat.le_of_ble_eq_true rfl) ?_
 unfold Bc at h
 conv=>whnf
 refine Len.map ?_
 conv=>whnf
 refine CallQ.io Ae (rP true (Aj false)) (by rfl) rfl (fun _=>rfl) (fun _=>⟨rfl,rfl⟩) rfl h (fun r h=>Bf h) (fun r1 u2 h=> ?_)
 conv=>whnf
 refine Len.map ?_
 conv=>whnf
 refine Ask.o h fun p3 h=> ?_
 conv=>whnf
 refine Elem.o (by first | omega | (simp [At] at * <;> omega)) ?_
 conv=>whnf
 cases h;exact ⟨(by rfl),(by rfl)⟩
noncomputable def J7 (n0:Int) (k0:Int) (t0:(List Int)):Option Bool:=
 if (↑t0.length:Int)=k0 then
 (Hd (n0) (t0)).bind fun r2=>
 some r2
 else
 some false
theorem Ajl {n0} {k0} {t0} {v} (h:J7 n0 k0 t0=some v):Ret Try.prog Sq [Ae n0,Ae k0,(slr false 1 Ae) t0] (V.bool v):=by
 refine Ba Akx (Nat.le_of_ble_eq_true rfl) ?_
 unfold J7 at h
 conv=>whnf
 refine Len.map ?_
 conv=>whnf
 refine Br.oe h (fun p1 h=> ?_) (fun p1 h=> ?_)
 ·conv=>whnf
  refine Br.yes ?_
  conv=>whnf
  refine Br.yes ?_
  conv=>whnf
  refine CallQ.o V.bool (by rfl) h (fun r h=>Ada h) (fun r2 h=> ?_)
  conv=>whnf
  refine Br.yes ?_
  conv=>whnf
  cases h;exact (by rfl)
 conv=>whnf
 refine Br.no ?_
 conv=>whnf
 refine Br.no ?_
 conv=>whnf
 refine Br.no ?_
 conv=>whnf
 cases h;exact (by rfl)
noncomputable def Ih (list0:(List (List Int))) (t0:(List Int)):Option (List (List Int)):=
 (C1 (list0) (t0)).bind fun r1=>
 if (r1.snd)=true then
 some list0
 else
 ask (0≤(0:Int)∧(0:Int)≤r1.fst∧r1.fst≤((list0.length:Nat):Int)) <|
 ask ((Ar (List Int)).length+(List.take (r1.fst.toNat-Int.toNat (0:Int)) (List.drop (Int.toNat (0:Int)) list0)).length≤LIM) <|
 ask ((Ar (List Int)++List.take (r1.fst.toNat-Int.toNat (0:Int)) (List.drop (Int.toNat (0:Int)) list0)).length+([t0]).length≤LIM) <|
 ask (0≤r1.fst∧r1.fst≤(↑list0.length:Int)∧(↑list0.length:Int)≤((list0.length:Nat):Int)) <|
 ask ((Ar (List Int)++List.take (r1.fst.toNat-Int.toNat (0:Int)) (List.drop (Int.toNat (0:Int)) list0)++[t0]).length+(List.take ((↑list0.length:Int).toNat-r1.fst.toNat) (List.drop r1.fst.toNat list0)).length≤LIM) <|
 some (Ar (List Int)++List.take (r1.fst.toNat-Int.toNat (0:Int)) (List.drop (Int.toNat (0:Int)) list0)++[t0]++List.take ((↑list0.length:Int).toNat-r1.fst.toNat) (List.drop r1.fst.toNat list0))
theorem Aet {list0} {t0} {v} (h:Ih list0 t0=some v):Se Try.prog Ri [(slr true 1 (slr false 1 Ae)) list0,(slr false 1 Ae) t0] (slr true 1 (slr false 1 Ae) v) 0 V.dead:=by
 refine A2g Ao8 (Nat.le_of_ble_eq_true rfl) ?_
 unfold Ih at h
 conv=>whnf
 refine CallQ.rd (fun r=>V.tup [Ae r.1,V.bool r.2]) (by first | rfl | simp only [V.fz,V.up,Ab,slr] | simp [Aa,V.fz,fzL,V.up,upL,Ab,Ac,Ad,slr]) (fun _=>by simp [V.noFz,Ce]) h (fun r h=>K6 h) (fun r1 h=> ?_)
 conv=>whnf
 refine Br.ob h (fun p2 h=> ?_) (fun p2 h=> ?_)
 ·conv=>whnf
  cases h;exact ⟨(by rfl),(by rfl)⟩
 conv=>whnf
 refine FrzQ.d (V.sl false (1:Nat) (List.map (slr false (1:Nat) Ae) list0)) (by first | (simp only [Al,Ac,slr];done) | exact (Al _).trans (Eq.trans (b:=V.fz (V.sl true (1:Nat) (List.map (slr false (1:Nat) Ae) list0))) rfl (Ac _ _ _)) | (simp [Al,V.fz,Ab,Ac,slr];done) | (simp [Al,V.fz,fzL,Ab,slr];done)) ?_
 conv=>whnf
 refine BslQ.o (slr true 1 Ae) (Ar (List Int)) (by exact fun _=>⟨rfl,rfl⟩) (by rfl) ?_
 conv=>whnf
 refine SlcQ.o (slr false 1 Ae) h fun h=> ?_
 conv=>whnf
 refine AppQ.o (m:=1) (slr false 1 Ae) (by exact fun _=>⟨rfl,rfl⟩) (Ar (List Int)) (List.take (r1.fst.toNat-Int.toNat (0:Int)) (List.drop (Int.toNat (0:Int)) list0)) (by rfl) (by rfl) h fun h=> ?_
 conv=>whnf
 refine BslQ.o (slr false 1 Ae) [t0] (by exact fun _=>⟨rfl,rfl⟩) (by rfl) ?_
 conv=>whnf
 refine NoOwn.o (fun _=>rfl) ?_
 conv=>whnf
 refine AppQ.o (m:=1) (slr false 1 Ae) (by exact fun _=>⟨rfl,rfl⟩) (Ar (List Int)++List.take (r1.fst.toNat-Int.toNat (0:Int)) (List.drop (Int.toNat (0:Int)) list0)) ([t0]) (by rfl) (by rfl) h fun h=> ?_
 conv=>whnf
 refine Len.map ?_
 conv=>whnf
 refine SlcQ.o (slr false 1 Ae) h fun h=> ?_
 conv=>whnf
 refine AppQ.o (m:=1) (slr false 1 Ae) (by exact fun _=>⟨rfl,rfl⟩) (Ar (List Int)++List.take (r1.fst.toNat-Int.toNat (0:Int)) (List.drop (Int.toNat (0:Int)) list0)++[t0]) (List.take ((↑list0.length:Int).toNat-r1.fst.toNat) (List.drop r1.fst.toNat list0)) (by rfl) (by rfl) h fun h=> ?_
 conv=>whnf
 cases h;exact ⟨(by rfl),(by rfl)⟩
theorem ApkQ.o {α ρ:Type} {m:Nat} {us vs:List V} {x:Option ρ} {v:ρ} {K1:List V→Prop} {K2:Nat→Nat→List V→Prop} (f:α→V) (hf:X9 m f) (hn : ∀x,A4 (f x).cells=false) (xs ys:List α) (ex:us=xs.map f) (ey:vs=ys.map f)
  (h:ask (xs.length+ys.length≤LIM) x=some v) (hk1:x=some v→K1 ((xs++ys).map f)) (hk2:x=some v → ∀b c,K2 b c ((xs++ys).map f)):ApkQ us vs K1 K2:=by
 subst ex;subst ey
 obtain ⟨h1,h2⟩:=Sh.1 h
 exact ⟨Ad9 hf ys,Qo hn ys,Qo hn xs,by simpa using h1,_,rfl,by rw [←List.map_append];exact hk1 h2,fun b c=>by rw [←List.map_append];exact hk2 h2 b c⟩
theorem BakQ.o {e q r s m n n2 c:Nat} {ad:Addr} {σ:St} {K:St→Prop} {zs zs':List V} (he:look σ (e%100000) = .rfv (.slice (some ad) n2 c) q []) (er:e/100000/1000=r) (es:e/100000%1000=s) (hq:look σ q = .val (.sl true m zs))
  (hr:look σ r = .val (.raw (.slice (some ad) n c))) (hs:look σ s = .val (.raw (.slice (some ad) n c))) (ez:n≤zs.length∧zs.take n=zs')
  (h:Bi (Ak s (.ref r []) (Ak r (.val (.sl true m zs')) (Ak r .top (Ak q .top (Ak (e%100000) .top σ))))) K):BakQ e σ K:=by
 obtain ⟨hn,rfl⟩:=ez
 rw [Aq] at h
 refine ⟨?_⟩
 have e2:Nd e σ=Ak s (.ref r []) (Ak r (.val (.sl true m (zs.take n))) (Ak r .top (Ak q .top (Ak (e%100000) .top σ)))):=by
  simp only [Nd,he,er,es,A11,hq,hr,hs]
  split
  ·rfl
  ·rename_i hne _;exact absurd ⟨rfl,rfl,hn,rfl,rfl,rfl⟩ hne
 rw [e2]
 exact h
theorem CallQ.io2s {β γ1 ρ:Type} {P:Program} {K:St→Prop} {σ:St} {v:ρ} {o:Option (β×γ1)} {k:β×γ1→Option ρ} (rep:β→V) (rep1:γ1→V) (u2:V) {vs vs':List V} {rs:List Nat} {f d j1 j2 r1 r2:Nat} {p1 p2:List Nat} {T1 T2:V} (e:vs=vs')
  (hroots:Jy σ [(j1,r1,p1),(j2,r2,p2)] rs=true) (hne:Nat.beq r1 r2=false)
  (hn : ∀b,Ea rs (rep b)=true) (hn1 : ∀b,Ea rs (rep1 b)=true∧(rep1 b).node=true) (hn2:Ea rs u2=true∧u2.node=true) (hT1:look σ r1 = .val T1) (hT2:look σ r2 = .val T2)
  (h:o.bind k=some v) (hr : ∀x,o=some x→Ag2 P f vs' (rep x.1) j1 (rep1 x.2) j2 u2)
  (hk : ∀b c1,k (b,c1)=some v→Ei p1 T1 (rep1 c1) fun T1'=>Ei p2 T2 u2 fun T2'=>Bi (Ak d (.val (rep b)) (Hq r2 T2' (p2.length+1) (Hq r1 T1' (p1.length+1) σ))) K) :
  CallQ P f d vs [(j1,r1,p1),(j2,r2,p2)] rs K σ:=by
 subst e
 obtain ⟨⟨b,c1⟩,h1,h2⟩:=Option.bind_eq_some_iff.1 h
 obtain ⟨T1',h3,h4⟩:=Bq (hk b c1 h2)
 obtain ⟨T2',h5,h6⟩:=Bq h4
 rw [Aq] at h6
 refine ⟨hroots,Tri.mono (hr _ h1) ?_⟩
 rintro res outs ⟨rfl,ho1,ho2⟩
 refine ⟨hn b,?_⟩
 rw [ho1,ho2]
 refine ⟨by simp only [(hn1 c1).1,hn2.1,Bool.and_self],?_⟩
 simp only [Ank,hne,hT1,hT2,h3,h5,Og (hn1 c1).2,Og hn2.2]
 exact h6
noncomputable def Cv (self:Sspan→SOp→List (List Int)→Int→Int→Bool→Option (Bool×Sspan)) (f0:SOp) (args0:List (List Int)) (old0:Int) (many0:Int) (fresh0:Bool):(Int×Sspan)→Option ((Int×Sspan) ⊕ (Sspan ⊕ Sspan)):=fun (x13,s0)=>
 if x13<many0 then
 ask ((0:Int)≤x13∧x13<(↑s0.list.length:Int)) <|
 ask (args0.length+[nth s0.list x13.toNat].length≤LIM) <|
 if fresh0=true then
 (self s0 f0 (args0++[nth s0.list x13.toNat]) old0 many0 true).bind fun (r3,u4)=>
 if r3=true then
 ask (InI (x13+(1:Int))) <|
 some (.inl (x13+(1:Int),u4))
 else
 some (.inr (.inl u4))
 else
 (self s0 f0 (args0++[nth s0.list x13.toNat]) old0 many0 (decide (x13≥old0))).bind fun (r3,u4)=>
 if r3=true then
 ask (InI (x13+(1:Int))) <|
 some (.inl (x13+(1:Int),u4))
 else
 some (.inr (.inl u4))
 else
 some (.inr (.inr s0))
def Hz (f0:SOp) (args0:List (List Int)) (old0:Int) (many0:Int) (fresh0:Bool):(Int×Sspan)→St:=fun s=>[(13,A.val (Ae s.1)),(7,A.val (rP true (Aw false) f0)),(0,A.ref 80 []),(80,A.val (rP true Ci s.2)),(2,A.ref 82 []),(82,A.val (slr true 1 (slr false 1 Ae) args0)),(3,A.val (Ae old0)),(4,A.val (Ae many0)),(5,A.val (V.bool fresh0))]
def L7 (args0:List (List Int)):(Sspan ⊕ Sspan)→Tgt
 | (.inl s)=>(Ex.ret,[12,80,82],[(12,A.val (V.bool false)),(80,A.val (rP true Ci s)),(82,A.val (slr true 1 (slr false 1 Ae) args0))])
 | (.inr s)=>((Ex.exit 0),[80,82],[(80,A.val (rP true Ci s)),(82,A.val (slr true 1 (slr false 1 Ae) args0))])
theorem Vb {self:Sspan→SOp→List (List Int)→Int→Int→Bool→Option (Bool×Sspan)} (hself : ∀ {w_0 w_1 w_2 w_3 w_4 w_5 v},self w_0 w_1 w_2 w_3 w_4 w_5=some v→Ag2 Try.prog B7 [(rP true Ci) w_0,(Aw false) w_1,(slr true 1 (slr false 1 Ae)) w_2,Ae w_3,Ae w_4,V.bool w_5] (V.bool v.1) 0 (rP true Ci v.2) 2 (slr true 1 (slr false 1 Ae) w_2))
  {f0:SOp} {args0:List (List Int)} {old0:Int} {many0:Int} {fresh0:Bool} (s:Int×Sspan) (o:(Int×Sspan) ⊕ (Sspan ⊕ Sspan)) (h:Cv self f0 args0 old0 many0 fresh0 s=some o):vc Try.prog Lz (Co [13,7,0,80,2,82,3,4,5] (Hz f0 args0 old0 many0 fresh0) (L7 args0) o) (Hz f0 args0 old0 many0 fresh0 s):=by
 obtain ⟨x13,s0⟩:=s
 unfold Cv at h
 try dsimp only at h
 conv=>whnf
 refine Br.od h (fun p11 h=> ?_) (fun p11 h=> ?_)
 ·conv=>whnf
  refine Cells.lit rfl rfl ?_
  conv=>whnf
  refine Cells.lit rfl rfl ?_
  conv=>whnf
  refine Kid.lit rfl rfl ?_
  conv=>whnf
  refine Len.map ?_
  conv=>whnf
  refine Ask.o h fun p12 h=> ?_
  conv=>whnf
  refine Kid.lit rfl rfl ?_
  conv=>whnf
  refine Cells.one (fun _=>⟨rfl,rfl⟩) (by first | omega | (simp [At] at * <;> omega)) ?_
  (conv=>whnf);refine SameQ.mk ⟨rfl,?_⟩
  conv=>whnf
  refine Cells.lit rfl rfl ?_
  iterate 5 ((conv=>whnf);refine SameQ.mk ⟨rfl,?_⟩)
  conv=>whnf
  refine Cells.lit rfl rfl ?_
  iterate 2 ((conv=>whnf);refine SameQ.mk ⟨rfl,?_⟩)
  conv=>whnf
  refine Kid.lit rfl rfl ?_
  conv=>whnf
  refine Len.map ?_
  conv=>whnf
  refine Ask.mk p12 ?_
  conv=>whnf
  refine SameQ.mk ⟨rfl,?_⟩
  conv=>whnf
  refine Kid.lit rfl rfl ?_
  conv=>whnf
  refine Cells.one (fun _=>⟨rfl,rfl⟩) (by first | omega | (simp [At] at * <;> omega)) ?_
  iterate 4 ((conv=>whnf);refine SameQ.mk ⟨rfl,?_⟩)
  conv=>whnf
  refine BslQ.o (slr false 1 Ae) ([nth s0.list (Int.toNat x13)]) (by exact fun _=>⟨rfl,rfl⟩) (by rfl) ?_
  conv=>whnf
  refine SameQ.mk ⟨rfl,?_⟩
  conv=>whnf
  refine Cells.lit rfl rfl ?_
  iterate 5 ((conv=>whnf);refine SameQ.mk ⟨rfl,?_⟩)
  conv=>whnf
  refine NoOwn.o (fun _=>rfl) ?_
  conv=>whnf
  refine ApkQ.o (slr false 1 Ae) (fun _=>⟨rfl,rfl⟩) (fun _=>rfl) args0 [nth s0.list (Int.toNat x13)] rfl rfl h (fun h=> ?_) (fun h b c=> ?_)
  all_goals repeat ((conv=>whnf);first | refine SameQ.mk ⟨rfl,?_⟩ | refine Cells.lit rfl rfl ?_ | refine Br.yes ?_ | refine Br.no ?_)
  all_goals conv=>whnf
  all_goals refine Two.mk ⟨?_,?_⟩
  all_goals repeat ((conv=>whnf);first | refine SameQ.mk ⟨rfl,?_⟩ | refine Cells.lit rfl rfl ?_ | refine Br.yes ?_ | refine Br.no ?_)
  all_goals conv=>whnf
  all_goals refine ⟨fun p=> ?_,fun p=> ?_⟩
  all_goals first | rw [if_pos p] at h | rw [if_neg (by rw [p];exact Bool.false_ne_true)] at h
  all_goals repeat ((conv=>whnf);first | refine SameQ.mk ⟨rfl,?_⟩ | refine Cells.lit rfl rfl ?_ | refine Br.yes ?_ | refine Br.no ?_)
  all_goals conv=>whnf
  all_goals refine CallQ.io2s V.bool (rP true (Ci)) (slr true 1 (slr false 1 Ae) (args0++[nth s0.list (Int.toNat x13)])) (by rfl) rfl rfl (fun _=>rfl) (fun _=>⟨rfl,rfl⟩) ⟨rfl,rfl⟩ rfl rfl h (fun r h=>hself h) (fun r3 u4 h=> ?_)
  all_goals conv=>whnf
  all_goals try (refine BakQ.o (zs':=args0.map (slr false 1 Ae)) rfl rfl rfl rfl rfl rfl ⟨by simp,by simp⟩ ?_;conv=>whnf)
  all_goals refine Br.flip ?_
  all_goals conv=>whnf
  all_goals refine Br.ob h (fun p14 h=> ?_) (fun p14 h=> ?_)
  all_goals conv=>whnf
  all_goals first | (cases h;exact ⟨rfl,rfl⟩) | skip
  all_goals refine Ask.o h fun p15 h=> ?_
  all_goals conv=>whnf
  all_goals (cases h;exact ⟨rfl,rfl⟩)
 ·conv=>whnf
  cases h;exact ⟨rfl,rfl⟩
noncomputable def Bp (self:Sspan→SOp→(List (List Int))→Int→Int→Bool→Option (Bool×Sspan)) (s0:Sspan) (f0:SOp) (args0:(List (List Int))) (old0:Int) (many0:Int) (fresh0:Bool):Option (Bool×Sspan):=
 if (↑args0.length:Int)=f0.Arity then
 ((((if (fresh0)=true then
 some true
 else
 if f0.Arity=(0:Int) then
 some (old0==(0:Int))
 else
 some false:Option Bool)).bind fun q4_28=>
 if (q4_28)=true then
 (Cx (s0.a) (f0) (s0.k) (args0)).bind fun r6=>
 (Fl (s0) (r6)).bind fun (_r7,u8)=>
 some u8
 else
 some s0:Option Sspan)).bind fun q9_80=>
 (Db (q9_80.a)).bind fun r10=>
 some (decide ((↑q9_80.list.length:Int)≤r10),q9_80)
 else
 (Am (Cv self f0 args0 old0 many0 fresh0) ((0:Int),s0)).bind fun t=>match t with
 | (.inl s1)=>some (false,s1)
 | (.inr s1)=>some (true,s1)
noncomputable def A9:Nat→Sspan→SOp→(List (List Int))→Int→Int→Bool→Option (Bool×Sspan)
 | 0=>fun _ _ _ _ _ _=>none
 | n+1=>Bp (A9 n)
theorem Wv {self:Sspan→SOp→(List (List Int))→Int→Int→Bool→Option (Bool×Sspan)} (hself : ∀ {w_0 w_1 w_2 w_3 w_4 w_5 v},self w_0 w_1 w_2 w_3 w_4 w_5=some v→Ag2 Try.prog B7 [(rP true Ci) w_0,(Aw false) w_1,(slr true 1 (slr false 1 Ae)) w_2,Ae w_3,Ae w_4,V.bool w_5] (V.bool v.1) 0 (rP true Ci v.2) 2 (slr true 1 (slr false 1 Ae) w_2)) {s0} {f0} {args0} {old0} {many0} {fresh0} {v} (h:Bp self s0 f0 args0 old0 many0 fresh0=some v):Ag2 Try.prog B7 [(rP true Ci) s0,(Aw false) f0,(slr true 1 (slr false 1 Ae)) args0,Ae old0,Ae many0,V.bool fresh0] (V.bool v.1) 0 (rP true Ci v.2) 2 (slr true 1 (slr false 1 Ae) args0):=by
 refine Ayl Zl (Nat.le_of_ble_eq_true rfl) ?_
 unfold Bp at h
 conv=>whnf
 refine Len.map ?_
 conv=>whnf
 refine Cells.lit rfl rfl ?_
 conv=>whnf
 refine Br.oe h (fun p1 h=> ?_) (fun p1 h=> ?_)
 ·conv=>whnf
  refine CutQ.o (fun t:Sspan=>match t with | s=>(Ex.normal,[0,80,82],[(0,A.ref 80 []),(80,A.val ((rP true (Ci)) s)),(82,A.val ((slr true 1 (slr false 1 Ae)) (args0)))])) h ?_ ?_
  ·intro t h
   conv=>whnf
   refine CutQ.o (fun t:Bool=>match t with | s=>(Ex.normal,[28,7,0,80,2,82],[(28,A.val (V.bool s)),(7,A.val ((rP true (Aw false)) (f0))),(0,A.ref 80 []),(80,A.val ((rP true (Ci)) (s0))),(2,A.ref 82 []),(82,A.val ((slr true 1 (slr false 1 Ae)) (args0)))])) h ?_ ?_
   ·intro t h
    conv=>whnf
    refine Br.ob h (fun p2 h=> ?_) (fun p2 h=> ?_)
    ·conv=>whnf
     refine Br.yes ?_
     conv=>whnf
     refine Br.yes ?_
     conv=>whnf
     refine Br.yes ?_
     conv=>whnf
     refine Br.yes ?_
     conv=>whnf
     refine Br.yes ?_
     conv=>whnf
     cases h;exact ⟨rfl,rfl⟩
    conv=>whnf
    refine Br.no ?_
    conv=>whnf
    refine Cells.lit rfl rfl ?_
    conv=>whnf
    refine Br.no ?_
    conv=>whnf
    refine Br.no ?_
    conv=>whnf
    refine Br.oe h (fun p3 h=> ?_) (fun p3 h=> ?_)
    ·conv=>whnf
     refine Br.yes ?_
     conv=>whnf
     refine Br.no ?_
     conv=>whnf
     refine Br.yes ?_
     conv=>whnf
     refine Br.no ?_
     conv=>whnf
     cases h;exact ⟨rfl,rfl⟩
    conv=>whnf
    refine Br.no ?_
    conv=>whnf
    refine Br.no ?_
    conv=>whnf
    refine Br.no ?_
    conv=>whnf
    refine Br.no ?_
    conv=>whnf
    cases h;exact ⟨rfl,rfl⟩
   rintro q4_28 h
   try dsimp only at h
   conv=>whnf
   refine Br.ob h (fun p5 h=> ?_) (fun p5 h=> ?_)
   ·conv=>whnf
    refine Cells.lit rfl rfl ?_
    conv=>whnf
    refine Cells.lit rfl rfl ?_
    conv=>whnf
    refine Cells.lit rfl rfl ?_
    conv=>whnf
    refine CallP.rd (slr true 1 Ae) (by first | rfl | simp only [V.fz,fzL,Ab,slr] | simp [Aa,V.fz,fzL,V.up,upL,Ab,Ac,Ad,slr]) (fun _=>by simp [V.noFz,Ch]) h (fun r h=>Ll h) (fun r6 h=> ?_)
    conv=>whnf
    refine CallQ.io (fun r=>V.tup []) (rP true (Ci)) (by first | rfl | (simp only [slr];done) | simp [Al,V.fz,Ab,slr]) rfl (fun _=>rfl) (fun _=>⟨rfl,rfl⟩) rfl h (fun r h=>Xq h) (fun r7 u8 h=> ?_)
    conv=>whnf
    cases h;exact ⟨rfl,rfl⟩
   conv=>whnf
   cases h;exact ⟨rfl,rfl⟩
  rintro q9_80 h
  try dsimp only at h
  conv=>whnf
  refine Cells.lit rfl rfl ?_
  conv=>whnf
  refine Kid.lit rfl rfl ?_
  conv=>whnf
  refine Len.map ?_
  conv=>whnf
  refine Cells.lit rfl rfl ?_
  conv=>whnf
  refine CallP.o Ae (by rfl) h (fun r h=>M2 h) (fun r10 h=> ?_)
  conv=>whnf
  cases h;exact ⟨(by rfl),(by rfl),(by rfl)⟩
 conv=>whnf
 refine LoopQ.o [13,7,0,80,2,82,3,4,5] (Hz f0 args0 old0 many0 fresh0) (L7 args0) h (fun s o h=>Vb hself s o h) (by rfl) (by rintro (_ | _)<;>rfl) ?_
 rintro (s1 | s1) h
 ·try dsimp only at h
  conv=>whnf
  cases h;exact ⟨rfl,rfl,rfl⟩
 try dsimp only at h
 conv=>whnf
 cases h;exact ⟨rfl,rfl,rfl⟩
theorem Mz : ∀(n:Nat) {s0:Sspan} {f0:SOp} {args0:(List (List Int))} {old0:Int} {many0:Int} {fresh0:Bool} {v:(Bool×Sspan)},A9 n s0 f0 args0 old0 many0 fresh0=some v→Ag2 Try.prog B7 [(rP true Ci) s0,(Aw false) f0,(slr true 1 (slr false 1 Ae)) args0,Ae old0,Ae many0,V.bool fresh0] (V.bool v.1) 0 (rP true Ci v.2) 2 (slr true 1 (slr false 1 Ae) args0)
 | 0,_,_,_,_,_,_,_,h=>by cases h
 | n+1,_,_,_,_,_,_,_,h=>Wv (fun h=>Mz n h) h
noncomputable def He (s0:Sspan) (f0:SOp) (args0:(List (List Int))) (old0:Int) (many0:Int) (fresh0:Bool):Option (Bool×Sspan×(List (List Int))):=
 (A0a fun n=>A9 n s0 f0 args0 old0 many0 fresh0).map fun r=>(r.1,r.2,args0)
theorem Z0 {s0} {f0} {args0} {old0} {many0} {fresh0} {v} (h:He s0 f0 args0 old0 many0 fresh0=some v):Ag2 Try.prog B7 [(rP true Ci) s0,(Aw false) f0,(slr true 1 (slr false 1 Ae)) args0,Ae old0,Ae many0,V.bool fresh0] (V.bool v.1) 0 (rP true Ci v.2.1) 2 (slr true 1 (slr false 1 Ae) v.2.2):=by
 obtain ⟨r,hr,rfl⟩:=Option.map_eq_some_iff.1 h
 obtain ⟨n,hn⟩:=Axn hr
 exact Mz n hn
end Go.Proofs.Ytmmcfdfdacpjgaa.Ax
