/-
 What the functions compute, as functions on plain data, and that the program does compute it; written by program.
-/
import Derived.Test.YtaalgpkajkogkaaCode
import Derived.Test.YtaalgpkajkogkaaG1
namespace Go.Proofs.Ytaalgpkajkogkaa.Ax
open Go
set_option maxRecDepth 100000
set_option maxHeartbeats 4000000
noncomputable def Gb (n0:Int) (_f0:SOp) (patterns0:List (List Int)) (x8:Int) (x9:Int) (x10:Int) (_x7'':List Int):(Int×Int)->Option ((Int×Int) ⊕ Int):=λ(x12,x11)=>
 ask ((0:Int)<=x8/\x8<(↑patterns0.length:Int)) <|
 if x12<(↑(nth patterns0 x8.toNat).length:Int) then
 ask (InI (x11*n0)) <|
 ask ((0:Int)<=x8/\x8<(↑patterns0.length:Int)) <|
 ask ((0:Int)<=x12/\x12<(↑(nth patterns0 x8.toNat).length:Int)) <|
 ask ((0:Int)<=nth (nth patterns0 x8.toNat) x12.toNat/\nth (nth patterns0 x8.toNat) x12.toNat<(↑[x9,x10].length:Int)) <|
 ask (InI (x11*n0+nth [x9,x10] (nth (nth patterns0 x8.toNat) x12.toNat).toNat)) <|
 ask (InI (x12+(1:Int))) <|
 some (.inl (x12+(1:Int),x11*n0+nth [x9,x10] (nth (nth patterns0 x8.toNat) x12.toNat).toNat))
 else
 some (.inr x11)
def Rv (n0:Int) (f0:SOp) (patterns0:List (List Int)) (x8:Int) (x9:Int) (x10:Int) (x7'':List Int):(Int×Int)->St:=λs=>[(12,A.val (Ae s.1)),(11,A.val (Ae s.2)),(10,A.val (Ae x10)),(9,A.val (Ae x9)),(8,A.val (Ae x8)),(7,A.val (slr true 1 Ae x7'')),(4,A.val (rP true (Bd false) f0)),(0,A.val (Ae n0)),(2,A.val (slr false 1 (slr false 1 Ae) patterns0))]
def Yc (n0:Int) (f0:SOp) (patterns0:List (List Int)) (x8:Int) (x9:Int) (x10:Int) (x7'':List Int):Int->Tgt
 | s=>((Ex.exit 6),[11,10,9,8,7,4,0,2],[(11,A.val (Ae s)),(10,A.val (Ae x10)),(9,A.val (Ae x9)),(8,A.val (Ae x8)),(7,A.val (slr true 1 Ae x7'')),(4,A.val (rP true (Bd false) f0)),(0,A.val (Ae n0)),(2,A.val (slr false 1 (slr false 1 Ae) patterns0))])
theorem Akc {n0} {f0} {patterns0} {x8} {x9} {x10} {x7''} (s) o (h:Gb n0 f0 patterns0 x8 x9 x10 x7'' s=some o):vc Try.prog Yk (Ch [12,11,10,9,8,7,4,0,2] (Rv n0 f0 patterns0 x8 x9 x10 x7'') (Yc n0 f0 patterns0 x8 x9 x10 x7'') o) (Rv n0 f0 patterns0 x8 x9 x10 x7'' s):=by
 obtain ⟨x12,x11⟩:=s;unfold Gb at h;try dsimp only at h
 refine Len.map<|Ask.o h λp4 h=>Elem.o (by first | omega | (simp [Au] at * <;> omega))<|Len.map<|Br.od h (λp5 h=> ?_) (λp5 h=> ?_)
 ·refine Ask.o h λp6 h=>BslQ.o Ae ([x9,x10]) (by exact λ_=>⟨rfl,rfl⟩) (by rfl)<|Len.map<|Ask.o h λp7 h=>Elem.o (by first | omega | (simp [Au] at * <;> omega))<|Len.map<|Ask.o h λp8 h=>Elem.o (by first | omega | (simp [Au] at * <;> omega))<|Len.map<|Ask.o h λp9 h=>Cells.one (λ_=>⟨rfl,rfl⟩) (by first | omega | (simp [Au] at * <;> omega))<|Ask.o h λp10 h=>Ask.o h λp11 h=> ?_
  cases h;exact ⟨rfl,rfl⟩
 cases h;exact ⟨rfl,rfl⟩
noncomputable def Hh (n0:Int) (f0:SOp) (patterns0:List (List Int)) (x8:Int) (x9:Int):(Int×(List Int))->Option ((Int×(List Int)) ⊕ (List Int)):=λ(x10,x7'')=>
 if x10<n0 then
 (Aq (Gb n0 f0 patterns0 x8 x9 x10 x7'') ((0:Int),(0:Int))).bind λq12_11=>
 ask ((0:Int)<=q12_11/\q12_11<(↑f0.Table.length:Int)) <|
 ask ((x7'').length+([nth f0.Table q12_11.toNat]).length<=LIM) <|
 ask (InI (x10+(1:Int))) <|
 some (.inl (x10+(1:Int),x7''++[nth f0.Table q12_11.toNat]))
 else
 some (.inr x7'')
def Rf (n0:Int) (f0:SOp) (patterns0:List (List Int)) (x8:Int) (x9:Int):(Int×(List Int))->St:=λs=>[(10,A.val (Ae s.1)),(9,A.val (Ae x9)),(8,A.val (Ae x8)),(7,A.val (slr true 1 Ae s.2)),(4,A.val (rP true (Bd false) f0)),(0,A.val (Ae n0)),(2,A.val (slr false 1 (slr false 1 Ae) patterns0))]
def X7 (n0:Int) (f0:SOp) (patterns0:List (List Int)) (x8:Int) (x9:Int):(List Int)->Tgt
 | s=>((Ex.exit 4),[9,8,7,4,0,2],[(9,A.val (Ae x9)),(8,A.val (Ae x8)),(7,A.val (slr true 1 Ae s)),(4,A.val (rP true (Bd false) f0)),(0,A.val (Ae n0)),(2,A.val (slr false 1 (slr false 1 Ae) patterns0))])
theorem Ajq {n0} {f0} {patterns0} {x8} {x9} (s) o (h:Hh n0 f0 patterns0 x8 x9 s=some o):vc Try.prog Yo (Ch [10,9,8,7,4,0,2] (Rf n0 f0 patterns0 x8 x9) (X7 n0 f0 patterns0 x8 x9) o) (Rf n0 f0 patterns0 x8 x9 s):=by
 obtain ⟨x10,x7''⟩:=s;unfold Hh at h;try dsimp only at h
 refine Br.od h (λp3 h=> ?_) (λp3 h=> ?_)
 ·refine LoopQ.o [12,11,10,9,8,7,4,0,2] (Rv n0 f0 patterns0 x8 x9 x10 x7'') (Yc n0 f0 patterns0 x8 x9 x10 x7'') h (λs o h=>Akc s o h) (by rfl) (λ_=>rfl) ?_;rintro q12_11 h;try dsimp only at h
  refine Cells.lit rfl rfl<|Len.map<|Ask.o h λp13 h=>Elem.o (by first | omega | (simp [Au] at * <;> omega))<|BslQ.o Ae ([nth f0.Table q12_11.toNat]) (by exact λ_=>⟨rfl,rfl⟩) (by rfl)<|NoOwn.o (λ_=>rfl)<|AppQ.o (m:=1) Ae (by exact λ_=>⟨rfl,rfl⟩) (x7'') ([nth f0.Table q12_11.toNat]) (by rfl) (by rfl) h λh=>Ask.o h λp14 h=> ?_
  cases h;exact ⟨rfl,rfl⟩
 cases h;exact ⟨rfl,rfl⟩
noncomputable def Hg (n0:Int) (f0:SOp) (patterns0:List (List Int)) (x8:Int):(Int×(List Int))->Option ((Int×(List Int)) ⊕ (List Int)):=λ(x9,x7')=>
 if x9<n0 then
 (Aq (Hh n0 f0 patterns0 x8 x9) ((0:Int),x7')).bind λq15_7=>
 ask (InI (x9+(1:Int))) <|
 some (.inl (x9+(1:Int),q15_7))
 else
 some (.inr x7')
def Ry (n0:Int) (f0:SOp) (patterns0:List (List Int)) (x8:Int):(Int×(List Int))->St:=λs=>[(9,A.val (Ae s.1)),(8,A.val (Ae x8)),(7,A.val (slr true 1 Ae s.2)),(4,A.val (rP true (Bd false) f0)),(0,A.val (Ae n0)),(2,A.val (slr false 1 (slr false 1 Ae) patterns0))]
def Xz (n0:Int) (f0:SOp) (patterns0:List (List Int)) (x8:Int):(List Int)->Tgt
 | s=>((Ex.exit 2),[8,7,4,0,2],[(8,A.val (Ae x8)),(7,A.val (slr true 1 Ae s)),(4,A.val (rP true (Bd false) f0)),(0,A.val (Ae n0)),(2,A.val (slr false 1 (slr false 1 Ae) patterns0))])
theorem Akw {n0} {f0} {patterns0} {x8} (s) o (h:Hg n0 f0 patterns0 x8 s=some o):vc Try.prog Xw (Ch [9,8,7,4,0,2] (Ry n0 f0 patterns0 x8) (Xz n0 f0 patterns0 x8) o) (Ry n0 f0 patterns0 x8 s):=by
 obtain ⟨x9,x7'⟩:=s;unfold Hg at h;try dsimp only at h
 refine Br.od h (λp2 h=> ?_) (λp2 h=> ?_)
 ·refine LoopQ.o [10,9,8,7,4,0,2] (Rf n0 f0 patterns0 x8 x9) (X7 n0 f0 patterns0 x8 x9) h (λs o h=>Ajq s o h) (by rfl) (λ_=>rfl) ?_;rintro q15_7 h;try dsimp only at h
  refine Ask.o h λp16 h=> ?_
  cases h;exact ⟨rfl,rfl⟩
 cases h;exact ⟨rfl,rfl⟩
noncomputable def F1 (n0:Int) (f0:SOp) (patterns0:List (List Int)):(Int×(List Int))->Option ((Int×(List Int)) ⊕ (List Int)):=λ(x8,x7)=>
 if x8<(↑patterns0.length:Int) then
 (Aq (Hg n0 f0 patterns0 x8) ((0:Int),x7)).bind λq17_7=>
 ask (InI (x8+(1:Int))) <|
 some (.inl (x8+(1:Int),q17_7))
 else
 some (.inr x7)
def Rb (n0:Int) (f0:SOp) (patterns0:List (List Int)):(Int×(List Int))->St:=λs=>[(8,A.val (Ae s.1)),(7,A.val (slr true 1 Ae s.2)),(4,A.val (rP true (Bd false) f0)),(0,A.val (Ae n0)),(2,A.val (slr false 1 (slr false 1 Ae) patterns0))]
def Yf (_n0:Int) (_f0:SOp) (_patterns0:List (List Int)):(List Int)->Tgt
 | s=>((Ex.exit 0),[7],[(7,A.val (slr true 1 Ae s))])
theorem Aj2 {n0} {f0} {patterns0} (s) o (h:F1 n0 f0 patterns0 s=some o):vc Try.prog Y3 (Ch [8,7,4,0,2] (Rb n0 f0 patterns0) (Yf n0 f0 patterns0) o) (Rb n0 f0 patterns0 s):=by
 obtain ⟨x8,x7⟩:=s;unfold F1 at h;try dsimp only at h
 refine Len.map<|Br.od h (λp1 h=> ?_) (λp1 h=> ?_)
 ·refine LoopQ.o [9,8,7,4,0,2] (Ry n0 f0 patterns0 x8) (Xz n0 f0 patterns0 x8) h (λs o h=>Akw s o h) (by rfl) (λ_=>rfl) ?_;rintro q17_7 h;try dsimp only at h
  refine Ask.o h λp18 h=> ?_
  cases h;exact ⟨rfl,rfl⟩
 cases h;exact ⟨rfl,rfl⟩
noncomputable def Nf (n0:Int) (f0:SOp) (patterns0:(List (List Int))):Option (List Int):=
 (Aq (F1 n0 f0 patterns0) ((0:Int),Av Int)).bind λq19_7=>
 some q19_7
theorem Arg {n0} {f0} {patterns0} {v} (h:Nf n0 f0 patterns0=some v):Ret Try.prog Xl [Ae n0,(Bd false) f0,(slr false 1 (slr false 1 Ae)) patterns0] (slr true 1 Ae v):=by
 refine Bn Aq4 (Nat.le_of_ble_eq_true rfl) ?_;unfold Nf at h;refine BslQ.o Ae (Av Int) (by exact λ_=>⟨rfl,rfl⟩) (by rfl)<|LoopQ.o [8,7,4,0,2] (Rb n0 f0 patterns0) (Yf n0 f0 patterns0) h (λs o h=>Aj2 s o h) (by rfl) (λ_=>rfl) ?_
 rintro q19_7 h;try dsimp only at h
 cases h;exact (by rfl)
noncomputable def F9 (a0:List Int) (b0:List Int):Int->Option (Int ⊕ (Unit ⊕ Unit)):=λx5=>
 if x5<(↑a0.length:Int) then
 ask ((0:Int)<=x5/\x5<(↑a0.length:Int)) <|
 ask ((0:Int)<=x5/\x5<(↑b0.length:Int)) <|
 if nth a0 x5.toNat≠nth b0 x5.toNat then
 some (.inr (.inl ()))
 else
 ask (InI (x5+(1:Int))) <|
 some (.inl (x5+(1:Int)))
 else
 some (.inr (.inr ()))
def Ra (a0:List Int) (b0:List Int):Int->St:=λs=>[(5,A.val (Ae s)),(0,A.val (slr false 1 Ae a0)),(1,A.val (slr false 1 Ae b0))]
def X8 (_a0:List Int) (_b0:List Int):(Unit ⊕ Unit)->Tgt
 | (.inl _s)=>(Ex.ret,[4],[(4,A.val (V.bool false))])
 | (.inr _s)=>((Ex.exit 0),[],[])
theorem Akh {a0} {b0} (x5) o (h:F9 a0 b0 x5=some o):vc Try.prog Xu (Ch [5,0,1] (Ra a0 b0) (X8 a0 b0) o) (Ra a0 b0 x5):=by
 unfold F9 at h;try dsimp only at h
 refine Len.map<|Br.od h (λp2 h=> ?_) (λp2 h=> ?_)
 ·refine Len.map<|Ask.o h λp3 h=>Elem.o (by first | omega | (simp [Au] at * <;> omega))<|Len.map<|Ask.o h λp4 h=>Elem.o (by first | omega | (simp [Au] at * <;> omega))<|Br.on h (λp5 h=> ?_) (λp5 h=> ?_)
  ·cases h;exact ⟨rfl,rfl⟩
  refine Ask.o h λp6 h=> ?_
  cases h;exact ⟨rfl,rfl⟩
 cases h;exact ⟨rfl,rfl⟩
noncomputable def M3 (a0:(List Int)) (b0:(List Int)):Option Bool:=
 if (↑a0.length:Int)≠(↑b0.length:Int) then
 some false
 else
 (Aq (F9 a0 b0) (0:Int)).bind λt=>match t with
 | (.inl _)=>(some false)
 | (.inr _)=>(some true)
theorem Arf {a0} {b0} {v} (h:M3 a0 b0=some v):Ret Try.prog Xg [(slr false 1 Ae) a0,(slr false 1 Ae) b0] (V.bool v):=by
 refine Bn Aqj (Nat.le_of_ble_eq_true rfl) ?_;unfold M3 at h;refine Len.map<|Len.map<|Br.on h (λp1 h=> ?_) (λp1 h=> ?_)
 ·cases h;exact (by rfl)
 refine LoopQ.o [5,0,1] (Ra a0 b0) (X8 a0 b0) h (λs o h=>Akh s o h) (by rfl) (by rintro (_ | _)<;>rfl) ?_;rintro (⟨⟩ | ⟨⟩) h
 ·try dsimp only at h
  cases h;exact (by rfl)
 try dsimp only at h
 cases h;exact (by rfl)
noncomputable def Hm (s0:ByteArray):(Int×SOp)->Option ((Int×SOp) ⊕ SOp):=λ(x4,x3)=>
 if x4<(↑s0.size:Int) then
 ask ((0:Int)<=x4/\x4<(↑s0.size:Int)) <|
 ask ((x3.Table).length+([IntKind.i64.wrap (IntKind.u8.wrap (Alg s0 x4-(48:Int)))]).length<=LIM) <|
 ask (InI (x4+(1:Int))) <|
 some (.inl (x4+(1:Int),{ Arity:=x3.Arity,Table:=x3.Table++[IntKind.i64.wrap (IntKind.u8.wrap (Alg s0 x4-(48:Int)))] }))
 else
 some (.inr x3)
def Nu (s0:ByteArray):(Int×SOp)->St:=λs=>[(4,A.val (Ae s.1)),(3,A.val (rP true (Bd true) s.2)),(2,A.val ((rP true (Bd true)) ({ Arity:=(0:Int),Table:=Av Int }))),(0,A.val (V.str s0))]
def Vu (_s0:ByteArray):SOp->Tgt
 | s=>((Ex.exit 0),[3,2],[(3,A.val (rP true (Bd true) s)),(2,A.val ((rP true (Bd true)) ({ Arity:=(0:Int),Table:=Av Int })))])
theorem Afu {s0} (s) o (h:Hm s0 s=some o):vc Try.prog Vb (Ch [4,3,2,0] (Nu s0) (Vu s0) o) (Nu s0 s):=by
 obtain ⟨x4,x3⟩:=s;unfold Hm at h;try dsimp only at h
 refine Br.od h (λp1 h=> ?_) (λp1 h=> ?_)
 ·refine Cells.lit rfl rfl<|Ask.o h λp2 h=>BslQ.o Ae ([IntKind.i64.wrap (IntKind.u8.wrap (Alg s0 x4-(48:Int)))]) (by exact λ_=>⟨rfl,rfl⟩) (by rfl)<|NoOwn.o (λ_=>rfl)<|Kid.lit rfl rfl<|Kid.lit rfl rfl<|SetKids.lit rfl<|AppQ.o (m:=1) Ae (by exact λ_=>⟨rfl,rfl⟩) (x3.Table) ([IntKind.i64.wrap (IntKind.u8.wrap (Alg s0 x4-(48:Int)))]) (by rfl) (by rfl) h λh=>SetKids.lit rfl<|Ask.o h λp3 h=> ?_
  cases h;exact ⟨rfl,rfl⟩
 cases h;exact ⟨rfl,rfl⟩
noncomputable def Bm (s0:ByteArray):Option SOp:=
 (Aq (Hm s0) ((0:Int),{ Arity:=(2:Int),Table:=Av Int })).bind λq4_3=>
 some q4_3
theorem B0 {s0} {v} (h:Bm s0=some v):Ret Try.prog Bs [V.str s0] (Bd true v):=by
 refine Bn Alx (Nat.le_of_ble_eq_true rfl) ?_;unfold Bm at h;refine SetKids.lit rfl<|LoopQ.o [4,3,2,0] (Nu s0) (Vu s0) h (λs o h=>Afu s o h) (by rfl) (λ_=>rfl) ?_
 rintro q4_3 h;try dsimp only at h
 refine Cells.lit rfl rfl<|SetKids.lit rfl ?_
 cases h;exact (by rfl)
noncomputable def Hj (n0:Int):(Int×SOp)->Option ((Int×SOp) ⊕ SOp):=λ(x4,x3)=>
 ask (InI (n0*n0)) <|
 ask (InI (n0*n0*n0)) <|
 if x4<n0*n0*n0 then
 ask (InI (n0*n0)) <|
 ask (n0*n0≠(0:Int)/\InI (x4.tdiv (n0*n0))) <|
 ask (InI (x4.tdiv (n0*n0)+n0)) <|
 ask (n0≠(0:Int)/\InI (x4.tdiv n0)) <|
 ask (n0≠(0:Int)) <|
 ask (InI (x4.tdiv (n0*n0)+n0-(x4.tdiv n0).tmod n0)) <|
 ask (n0≠(0:Int)) <|
 ask (InI (x4.tdiv (n0*n0)+n0-(x4.tdiv n0).tmod n0+x4.tmod n0)) <|
 ask (n0≠(0:Int)) <|
 ask ((x3.Table).length+([(x4.tdiv (n0*n0)+n0-(x4.tdiv n0).tmod n0+x4.tmod n0).tmod n0]).length<=LIM) <|
 ask (InI (x4+(1:Int))) <|
 some (.inl (x4+(1:Int),{ Arity:=x3.Arity,Table:=x3.Table++[(x4.tdiv (n0*n0)+n0-(x4.tdiv n0).tmod n0+x4.tmod n0).tmod n0] }))
 else
 some (.inr x3)
def Nw (n0:Int):(Int×SOp)->St:=λs=>[(4,A.val (Ae s.1)),(3,A.val (rP true (Bd true) s.2)),(2,A.val ((rP true (Bd true)) ({ Arity:=(0:Int),Table:=Av Int }))),(0,A.val (Ae n0))]
def V5 (_n0:Int):SOp->Tgt
 | s=>((Ex.exit 0),[3,2],[(3,A.val (rP true (Bd true) s)),(2,A.val ((rP true (Bd true)) ({ Arity:=(0:Int),Table:=Av Int })))])
theorem Af4 {n0} (s) o (h:Hj n0 s=some o):vc Try.prog U0 (Ch [4,3,2,0] (Nw n0) (V5 n0) o) (Nw n0 s):=by
 obtain ⟨x4,x3⟩:=s;unfold Hj at h;try dsimp only at h
 refine Ask.o h λp1 h=>Ask.o h λp2 h=>Br.od h (λp3 h=> ?_) (λp3 h=> ?_)
 ·refine Cells.lit rfl rfl<|Ask.o h λp4 h=>Ask.o h λp5 h=>Ask.o h λp6 h=>Ask.o h λp7 h=>Ask.o h λp8 h=>Ask.o h λp9 h=>Ask.o h λp10 h=>Ask.o h λp11 h=>Ask.o h λp12 h=>BslQ.o Ae ([(x4.tdiv (n0*n0)+n0-(x4.tdiv n0).tmod n0+x4.tmod n0).tmod n0]) (by exact λ_=>⟨rfl,rfl⟩) (by rfl)<|NoOwn.o (λ_=>rfl)<|Kid.lit rfl rfl<|Kid.lit rfl rfl<|SetKids.lit rfl<|AppQ.o (m:=1) Ae (by exact λ_=>⟨rfl,rfl⟩) (x3.Table) ([(x4.tdiv (n0*n0)+n0-(x4.tdiv n0).tmod n0+x4.tmod n0).tmod n0]) (by rfl) (by rfl) h λh=>SetKids.lit rfl<|Ask.o h λp13 h=> ?_
  cases h;exact ⟨rfl,rfl⟩
 cases h;exact ⟨rfl,rfl⟩
noncomputable def H7 (n0:Int):Option SOp:=
 (Aq (Hj n0) ((0:Int),{ Arity:=(3:Int),Table:=Av Int })).bind λq14_3=>
 some q14_3
theorem Aau {n0} {v} (h:H7 n0=some v):Ret Try.prog Nn [Ae n0] (Bd true v):=by
 refine Bn Am7 (Nat.le_of_ble_eq_true rfl) ?_;unfold H7 at h;refine SetKids.lit rfl<|LoopQ.o [4,3,2,0] (Nw n0) (V5 n0) h (λs o h=>Af4 s o h) (by rfl) (λ_=>rfl) ?_
 rintro q14_3 h;try dsimp only at h
 refine Cells.lit rfl rfl<|SetKids.lit rfl ?_
 cases h;exact (by rfl)
noncomputable def Ff (f0:List Int) (g0:List Int):(Int×(List Int))->Option ((Int×(List Int)) ⊕ (List Int)):=λ(x13,x5)=>
 if x13<(↑f0.length:Int) then
 ask ((0:Int)<=x13/\x13<(↑f0.length:Int)) <|
 ask ((0:Int)<=nth f0 x13.toNat/\nth f0 x13.toNat<(↑g0.length:Int)) <|
 ask ((0:Int)<=x13/\x13<(↑x5.length:Int)) <|
 ask (InI (x13+(1:Int))) <|
 some (.inl (x13+(1:Int),x5.set x13.toNat (nth g0 (nth f0 x13.toNat).toNat)))
 else
 some (.inr x5)
def Pt (f0:List Int) (g0:List Int):(Int×(List Int))->St:=λs=>[(13,A.val (Ae s.1)),(12,A.val (Ae ((↑f0.length:Int)))),(11,A.val (slr false 1 Ae f0)),(5,A.val (slr true 1 Ae s.2)),(1,A.val (slr false 1 Ae g0))]
def W4 (_f0:List Int) (_g0:List Int):(List Int)->Tgt
 | s=>((Ex.exit 0),[5],[(5,A.val (slr true 1 Ae s))])
theorem Aha {f0} {g0} (s) o (h:Ff f0 g0 s=some o):vc Try.prog W2 (Ch [13,12,11,5,1] (Pt f0 g0) (W4 f0 g0) o) (Pt f0 g0 s):=by
 obtain ⟨x13,x5⟩:=s;unfold Ff at h;try dsimp only at h
 refine Br.od h (λp2 h=> ?_) (λp2 h=> ?_)
 ·refine Len.map<|Ask.o h λp3 h=>Elem.o (by first | omega | (simp [Au] at * <;> omega))<|Len.map<|Ask.o h λp4 h=>Elem.o (by first | omega | (simp [Au] at * <;> omega))<|Len.map<|Ask.o h λp5 h=>SetKids.one (λ_=>⟨rfl,rfl⟩) (nth g0 (nth f0 x13.toNat).toNat) (by rfl) (by first | omega | (simp [Au] at * <;> omega))<|Ask.o h λp6 h=> ?_
  cases h;exact ⟨rfl,rfl⟩
 cases h;exact ⟨rfl,rfl⟩
noncomputable def L2 (f0:(List Int)) (g0:(List Int)):Option (List Int):=
 ask ((0:Int)<=(↑f0.length:Int)/\(↑f0.length:Int)<=(↑LIM:Int)) <|
 (Aq (Ff f0 g0) ((0:Int),List.replicate (↑f0.length:Int).toNat (0:Int))).bind λq7_5=>
 some q7_5
theorem Any {f0} {g0} {v} (h:L2 f0 g0=some v):Ret Try.prog Uk [(slr false 1 Ae) f0,(slr false 1 Ae) g0] (slr true 1 Ae v):=by
 refine Bn Apo (Nat.le_of_ble_eq_true rfl) ?_;unfold L2 at h;refine Len.map<|Ask.o h λp1 h=>MkQ.o Ae ((0:Int)) rfl<|Len.map<|LoopQ.o [13,12,11,5,1] (Pt f0 g0) (W4 f0 g0) h (λs o h=>Aha s o h) (by rfl) (λ_=>rfl) ?_
 rintro q7_5 h;try dsimp only at h
 cases h;exact (by rfl)
noncomputable def Ez (a0:List Int) (b0:List Int):Int->Option (Int ⊕ (Unit ⊕ Unit)):=λx14=>
 if x14<(↑a0.length:Int) then
 ask ((0:Int)<=x14/\x14<(↑a0.length:Int)) <|
 ask ((0:Int)<=x14/\x14<(↑b0.length:Int)) <|
 if nth b0 x14.toNat≠nth a0 x14.toNat then
 some (.inr (.inl ()))
 else
 ask (InI (x14+(1:Int))) <|
 some (.inl (x14+(1:Int)))
 else
 some (.inr (.inr ()))
def N4 (a0:List Int) (b0:List Int):Int->St:=λs=>[(14,A.val (Ae s)),(13,A.val (Ae ((↑a0.length:Int)))),(12,A.val (slr false 1 Ae a0)),(1,A.val (slr false 1 Ae b0))]
def Ut (_a0:List Int) (_b0:List Int):(Unit ⊕ Unit)->Tgt
 | (.inl _s)=>(Ex.ret,[4],[(4,A.val (V.bool false))])
 | (.inr _s)=>((Ex.exit 0),[],[])
theorem Afw {a0} {b0} (x14) o (h:Ez a0 b0 x14=some o):vc Try.prog Vg (Ch [14,13,12,1] (N4 a0 b0) (Ut a0 b0) o) (N4 a0 b0 x14):=by
 unfold Ez at h;try dsimp only at h
 refine Br.od h (λp2 h=> ?_) (λp2 h=> ?_)
 ·refine Len.map<|Ask.o h λp3 h=>Elem.o (by first | omega | (simp [Au] at * <;> omega))<|Len.map<|Ask.o h λp4 h=>Elem.o (by first | omega | (simp [Au] at * <;> omega))<|Br.on h (λp5 h=> ?_) (λp5 h=> ?_)
  ·cases h;exact ⟨rfl,rfl⟩
  refine Ask.o h λp6 h=> ?_
  cases h;exact ⟨rfl,rfl⟩
 cases h;exact ⟨rfl,rfl⟩
noncomputable def Km (a0:(List Int)) (b0:(List Int)):Option Bool:=
 if (↑a0.length:Int)≠(↑b0.length:Int) then
 some false
 else
 (Aq (Ez a0 b0) (0:Int)).bind λt=>match t with
 | (.inl _)=>(some false)
 | (.inr _)=>(some true)
theorem Al8 {a0} {b0} {v} (h:Km a0 b0=some v):Ret Try.prog Te [(slr false 1 Ae) a0,(slr false 1 Ae) b0] (V.bool v):=by
 refine Bn Am5 (Nat.le_of_ble_eq_true rfl) ?_;unfold Km at h;refine Len.map<|Len.map<|Br.on h (λp1 h=> ?_) (λp1 h=> ?_)
 ·cases h;exact (by rfl)
 refine Len.map<|LoopQ.o [14,13,12,1] (N4 a0 b0) (Ut a0 b0) h (λs o h=>Afw s o h) (by rfl) (by rintro (_ | _)<;>rfl) ?_
 rintro (⟨⟩ | ⟨⟩) h
 ·try dsimp only at h
  cases h;exact (by rfl)
 try dsimp only at h
 cases h;exact (by rfl)
noncomputable def F8 (a0:List SCloneStep) (b0:List SCloneStep):Int->Option (Int ⊕ (Unit ⊕ Unit)):=λx5=>
 if x5<(↑a0.length:Int) then
 ask ((0:Int)<=x5/\x5<(↑a0.length:Int)) <|
 ask ((0:Int)<=x5/\x5<(↑b0.length:Int)) <|
 if (nth a0 x5.toNat).Op≠(nth b0 x5.toNat).Op then
 some (.inr (.inl ()))
 else
 ask ((0:Int)<=x5/\x5<(↑a0.length:Int)) <|
 ask ((0:Int)<=x5/\x5<(↑b0.length:Int)) <|
 (L9 ((nth a0 x5.toNat).Args) ((nth b0 x5.toNat).Args)).bind λr8=>
 if (r8)=true then
 ask (InI (x5+(1:Int))) <|
 some (.inl (x5+(1:Int)))
 else
 some (.inr (.inl ()))
 else
 some (.inr (.inr ()))
def Rc (a0:List SCloneStep) (b0:List SCloneStep):Int->St:=λs=>[(5,A.val (Ae s)),(0,A.val (slr false 2 (Af false) a0)),(1,A.val (slr false 2 (Af false) b0))]
def Yl (_a0:List SCloneStep) (_b0:List SCloneStep):(Unit ⊕ Unit)->Tgt
 | (.inl _s)=>(Ex.ret,[4],[(4,A.val (V.bool false))])
 | (.inr _s)=>((Ex.exit 0),[],[])
theorem Ajm {a0} {b0} (x5) o (h:F8 a0 b0 x5=some o):vc Try.prog Ya (Ch [5,0,1] (Rc a0 b0) (Yl a0 b0) o) (Rc a0 b0 x5):=by
 unfold F8 at h;try dsimp only at h
 refine Len.map<|Br.od h (λp2 h=> ?_) (λp2 h=> ?_)
 ·refine Len.map<|Ask.o h λp3 h=>Elem.o (by first | omega | (simp [Au] at * <;> omega))<|Len.map<|Ask.o h λp4 h=>Elem.o (by first | omega | (simp [Au] at * <;> omega))<|Br.on h (λp5 h=> ?_) (λp5 h=> ?_)
  ·refine Br.yes<|Br.yes<|Br.yes<|Br.yes<|Br.yes<|Br.yes<|Br.yes<|Br.yes<|Br.yes<|Br.yes<|Br.yes<|Br.yes<|Br.yes ?_
   cases h;exact ⟨rfl,rfl⟩
  refine Br.no<|Br.no<|Len.map<|Ask.o h λp6 h=>Elem.o (by first | omega | (simp [Au] at * <;> omega))<|Br.no<|Br.no<|Br.no<|Br.no<|Br.no<|Len.map<|Ask.o h λp7 h=>Elem.o (by first | omega | (simp [Au] at * <;> omega))<|Br.no<|Br.no<|Br.no<|CallQ.o V.bool (by rfl) h (λr h=>Ahk h) (λr8 h=> ?_)
  refine Br.no<|Br.no<|Br.flip<|Br.ob h (λp9 h=> ?_) (λp9 h=> ?_)
  ·refine Ask.o h λp10 h=> ?_
   cases h;exact ⟨rfl,rfl⟩
  cases h;exact ⟨rfl,rfl⟩
 cases h;exact ⟨rfl,rfl⟩
noncomputable def M7 (a0:(List SCloneStep)) (b0:(List SCloneStep)):Option Bool:=
 if (↑a0.length:Int)≠(↑b0.length:Int) then
 some false
 else
 (Aq (F8 a0 b0) (0:Int)).bind λt=>match t with
 | (.inl _)=>(some false)
 | (.inr _)=>(some true)
theorem Aqs {a0} {b0} {v} (h:M7 a0 b0=some v):Ret Try.prog Xk [(slr false 2 (Af false)) a0,(slr false 2 (Af false)) b0] (V.bool v):=by
 refine Bn Aqm (Nat.le_of_ble_eq_true rfl) ?_;unfold M7 at h;refine Len.map<|Len.map<|Br.on h (λp1 h=> ?_) (λp1 h=> ?_)
 ·cases h;exact (by rfl)
 refine LoopQ.o [5,0,1] (Rc a0 b0) (Yl a0 b0) h (λs o h=>Ajm s o h) (by rfl) (by rintro (_ | _)<;>rfl) ?_;rintro (⟨⟩ | ⟨⟩) h
 ·try dsimp only at h
  cases h;exact (by rfl)
 try dsimp only at h
 cases h;exact (by rfl)
noncomputable def F3 (a0:List (List Int)) (b0:List (List Int)):Int->Option (Int ⊕ (Unit ⊕ Unit)):=λx5=>
 if x5<(↑a0.length:Int) then
 ask ((0:Int)<=x5/\x5<(↑a0.length:Int)) <|
 ask ((0:Int)<=x5/\x5<(↑b0.length:Int)) <|
 (L9 (nth a0 x5.toNat) (nth b0 x5.toNat)).bind λr5=>
 if (r5)=true then
 ask (InI (x5+(1:Int))) <|
 some (.inl (x5+(1:Int)))
 else
 some (.inr (.inl ()))
 else
 some (.inr (.inr ()))
def Rx (a0:List (List Int)) (b0:List (List Int)):Int->St:=λs=>[(5,A.val (Ae s)),(0,A.val (slr false 1 (slr false 1 Ae) a0)),(1,A.val (slr false 1 (slr false 1 Ae) b0))]
def Yq (_a0:List (List Int)) (_b0:List (List Int)):(Unit ⊕ Unit)->Tgt
 | (.inl _s)=>(Ex.ret,[4],[(4,A.val (V.bool false))])
 | (.inr _s)=>((Ex.exit 0),[],[])
theorem Akk {a0} {b0} (x5) o (h:F3 a0 b0 x5=some o):vc Try.prog Y4 (Ch [5,0,1] (Rx a0 b0) (Yq a0 b0) o) (Rx a0 b0 x5):=by
 unfold F3 at h;try dsimp only at h
 refine Len.map<|Br.od h (λp2 h=> ?_) (λp2 h=> ?_)
 ·refine Len.map<|Ask.o h λp3 h=>Elem.o (by first | omega | (simp [Au] at * <;> omega))<|Len.map<|Ask.o h λp4 h=>Elem.o (by first | omega | (simp [Au] at * <;> omega))<|CallQ.o V.bool (by rfl) h (λr h=>Ahk h) (λr5 h=> ?_)
  refine Br.flip<|Br.ob h (λp6 h=> ?_) (λp6 h=> ?_)
  ·refine Ask.o h λp7 h=> ?_
   cases h;exact ⟨rfl,rfl⟩
  cases h;exact ⟨rfl,rfl⟩
 cases h;exact ⟨rfl,rfl⟩
noncomputable def Kr (a0:(List (List Int))) (b0:(List (List Int))):Option Bool:=
 if (↑a0.length:Int)≠(↑b0.length:Int) then
 some false
 else
 (Aq (F3 a0 b0) (0:Int)).bind λt=>match t with
 | (.inl _)=>(some false)
 | (.inr _)=>(some true)
theorem Afa {a0} {b0} {v} (h:Kr a0 b0=some v):Ret Try.prog Xh [(slr false 1 (slr false 1 Ae)) a0,(slr false 1 (slr false 1 Ae)) b0] (V.bool v):=by
 refine Bn Are (Nat.le_of_ble_eq_true rfl) ?_;unfold Kr at h;refine Len.map<|Len.map<|Br.on h (λp1 h=> ?_) (λp1 h=> ?_)
 ·cases h;exact (by rfl)
 refine LoopQ.o [5,0,1] (Rx a0 b0) (Yq a0 b0) h (λs o h=>Akk s o h) (by rfl) (by rintro (_ | _)<;>rfl) ?_;rintro (⟨⟩ | ⟨⟩) h
 ·try dsimp only at h
  cases h;exact (by rfl)
 try dsimp only at h
 cases h;exact (by rfl)
end Go.Proofs.Ytaalgpkajkogkaa.Ax
