/-
 What the functions compute, as functions on plain data, and that the program does compute it; written by program.
-/
import Derived.Test.YtaalgpkajkogkaaCode
namespace Go.Proofs.Ytaalgpkajkogkaa.Ax
open Go
set_option maxRecDepth 100000
set_option maxHeartbeats 4000000
noncomputable def Kl (name0:ByteArray):Option SCondition:=
 if (name0.toList==(ByteArray.mk #[109,97,108,99,101,118]).toList)=true then
 some ({ Arity:=(3:Int),Rules:=[{ Left:=[(0:Int),(1:Int),(1:Int)],Right:=[(0:Int)] },{ Left:=[(0:Int),(0:Int),(1:Int)],Right:=[(1:Int)] }] })
 else
 if (name0.toList==(ByteArray.mk #[109,97,106,111,114,105,116,121]).toList)=true then
 some ({ Arity:=(3:Int),Rules:=[{ Left:=[(0:Int),(0:Int),(1:Int)],Right:=[(0:Int)] },{ Left:=[(0:Int),(1:Int),(0:Int)],Right:=[(0:Int)] },{ Left:=[(1:Int),(0:Int),(0:Int)],Right:=[(0:Int)] }] })
 else
 if (name0.toList==(ByteArray.mk #[109,105,110,111,114,105,116,121]).toList)=true then
 some ({ Arity:=(3:Int),Rules:=[{ Left:=[(0:Int),(0:Int),(1:Int)],Right:=[(1:Int)] },{ Left:=[(0:Int),(1:Int),(0:Int)],Right:=[(1:Int)] },{ Left:=[(1:Int),(0:Int),(0:Int)],Right:=[(1:Int)] }] })
 else
 if (name0.toList==(ByteArray.mk #[112,105,120,108,101,121]).toList)=true then
 some ({ Arity:=(3:Int),Rules:=[{ Left:=[(0:Int),(1:Int),(1:Int)],Right:=[(0:Int)] },{ Left:=[(0:Int),(1:Int),(0:Int)],Right:=[(0:Int)] },{ Left:=[(0:Int),(0:Int),(1:Int)],Right:=[(1:Int)] }] })
 else
 if (name0.toList==(ByteArray.mk #[99,111,109,109,117,116,97,116,105,118,101]).toList)=true then
 some ({ Arity:=(2:Int),Rules:=[{ Left:=[(0:Int),(0:Int)],Right:=[(0:Int)] },{ Left:=[(0:Int),(1:Int)],Right:=[(1:Int),(0:Int)] }] })
 else
 if (name0.toList==(ByteArray.mk #[119,101,97,107]).toList)=true then
 some ({ Arity:=(3:Int),Rules:=[{ Left:=[(0:Int),(0:Int),(0:Int)],Right:=[(0:Int)] },{ Left:=[(0:Int),(0:Int),(1:Int)],Right:=[(0:Int),(1:Int),(0:Int)] },{ Left:=[(0:Int),(1:Int),(0:Int)],Right:=[(1:Int),(0:Int),(0:Int)] }] })
 else
 some ({ Arity:=(0:Int),Rules:=Av SRule })
theorem Amm {name0} {v} (h:Kl name0=some v):Ret Try.prog Tl [V.str name0] (Ah true v):=by
 refine Bn Am2 (Nat.le_of_ble_eq_true rfl) ?_;unfold Kl at h;conv=>whnf
 refine Br.ob h (λp1 h=> ?_) (λp1 h=> ?_)
 ·conv=>whnf
  refine BslQ.o Ae ([(0:Int),(1:Int),(1:Int)]) (by exact λ_=>⟨rfl,rfl⟩) (by rfl) ?_;conv=>whnf
  refine BslQ.o Ae ([(0:Int)]) (by exact λ_=>⟨rfl,rfl⟩) (by rfl) ?_;conv=>whnf
  refine BslQ.o Ae ([(0:Int),(0:Int),(1:Int)]) (by exact λ_=>⟨rfl,rfl⟩) (by rfl) ?_;conv=>whnf
  refine BslQ.o Ae ([(1:Int)]) (by exact λ_=>⟨rfl,rfl⟩) (by rfl) ?_;conv=>whnf
  refine BslQ.o (Ca true) ([{ Left:=[(0:Int),(1:Int),(1:Int)],Right:=[(0:Int)] },{ Left:=[(0:Int),(0:Int),(1:Int)],Right:=[(1:Int)] }]) (by exact λ_=>⟨rfl,rfl⟩) (by rfl) ?_;conv=>whnf
  refine SetKids.lit rfl ?_;conv=>whnf
  cases h;exact (by rfl)
 conv=>whnf
 refine Br.ob h (λp2 h=> ?_) (λp2 h=> ?_)
 ·conv=>whnf
  refine BslQ.o Ae ([(0:Int),(0:Int),(1:Int)]) (by exact λ_=>⟨rfl,rfl⟩) (by rfl) ?_;conv=>whnf
  refine BslQ.o Ae ([(0:Int)]) (by exact λ_=>⟨rfl,rfl⟩) (by rfl) ?_;conv=>whnf
  refine BslQ.o Ae ([(0:Int),(1:Int),(0:Int)]) (by exact λ_=>⟨rfl,rfl⟩) (by rfl) ?_;conv=>whnf
  refine BslQ.o Ae ([(0:Int)]) (by exact λ_=>⟨rfl,rfl⟩) (by rfl) ?_;conv=>whnf
  refine BslQ.o Ae ([(1:Int),(0:Int),(0:Int)]) (by exact λ_=>⟨rfl,rfl⟩) (by rfl) ?_;conv=>whnf
  refine BslQ.o Ae ([(0:Int)]) (by exact λ_=>⟨rfl,rfl⟩) (by rfl) ?_;conv=>whnf
  refine BslQ.o (Ca true) ([{ Left:=[(0:Int),(0:Int),(1:Int)],Right:=[(0:Int)] },{ Left:=[(0:Int),(1:Int),(0:Int)],Right:=[(0:Int)] },{ Left:=[(1:Int),(0:Int),(0:Int)],Right:=[(0:Int)] }]) (by exact λ_=>⟨rfl,rfl⟩) (by rfl) ?_;conv=>whnf
  refine SetKids.lit rfl ?_;conv=>whnf
  cases h;exact (by rfl)
 conv=>whnf
 refine Br.ob h (λp3 h=> ?_) (λp3 h=> ?_)
 ·conv=>whnf
  refine BslQ.o Ae ([(0:Int),(0:Int),(1:Int)]) (by exact λ_=>⟨rfl,rfl⟩) (by rfl) ?_;conv=>whnf
  refine BslQ.o Ae ([(1:Int)]) (by exact λ_=>⟨rfl,rfl⟩) (by rfl) ?_;conv=>whnf
  refine BslQ.o Ae ([(0:Int),(1:Int),(0:Int)]) (by exact λ_=>⟨rfl,rfl⟩) (by rfl) ?_;conv=>whnf
  refine BslQ.o Ae ([(1:Int)]) (by exact λ_=>⟨rfl,rfl⟩) (by rfl) ?_;conv=>whnf
  refine BslQ.o Ae ([(1:Int),(0:Int),(0:Int)]) (by exact λ_=>⟨rfl,rfl⟩) (by rfl) ?_;conv=>whnf
  refine BslQ.o Ae ([(1:Int)]) (by exact λ_=>⟨rfl,rfl⟩) (by rfl) ?_;conv=>whnf
  refine BslQ.o (Ca true) ([{ Left:=[(0:Int),(0:Int),(1:Int)],Right:=[(1:Int)] },{ Left:=[(0:Int),(1:Int),(0:Int)],Right:=[(1:Int)] },{ Left:=[(1:Int),(0:Int),(0:Int)],Right:=[(1:Int)] }]) (by exact λ_=>⟨rfl,rfl⟩) (by rfl) ?_;conv=>whnf
  refine SetKids.lit rfl ?_;conv=>whnf
  cases h;exact (by rfl)
 conv=>whnf
 refine Br.ob h (λp4 h=> ?_) (λp4 h=> ?_)
 ·conv=>whnf
  refine BslQ.o Ae ([(0:Int),(1:Int),(1:Int)]) (by exact λ_=>⟨rfl,rfl⟩) (by rfl) ?_;conv=>whnf
  refine BslQ.o Ae ([(0:Int)]) (by exact λ_=>⟨rfl,rfl⟩) (by rfl) ?_;conv=>whnf
  refine BslQ.o Ae ([(0:Int),(1:Int),(0:Int)]) (by exact λ_=>⟨rfl,rfl⟩) (by rfl) ?_;conv=>whnf
  refine BslQ.o Ae ([(0:Int)]) (by exact λ_=>⟨rfl,rfl⟩) (by rfl) ?_;conv=>whnf
  refine BslQ.o Ae ([(0:Int),(0:Int),(1:Int)]) (by exact λ_=>⟨rfl,rfl⟩) (by rfl) ?_;conv=>whnf
  refine BslQ.o Ae ([(1:Int)]) (by exact λ_=>⟨rfl,rfl⟩) (by rfl) ?_;conv=>whnf
  refine BslQ.o (Ca true) ([{ Left:=[(0:Int),(1:Int),(1:Int)],Right:=[(0:Int)] },{ Left:=[(0:Int),(1:Int),(0:Int)],Right:=[(0:Int)] },{ Left:=[(0:Int),(0:Int),(1:Int)],Right:=[(1:Int)] }]) (by exact λ_=>⟨rfl,rfl⟩) (by rfl) ?_;conv=>whnf
  refine SetKids.lit rfl ?_;conv=>whnf
  cases h;exact (by rfl)
 conv=>whnf
 refine Br.ob h (λp5 h=> ?_) (λp5 h=> ?_)
 ·conv=>whnf
  refine BslQ.o Ae ([(0:Int),(0:Int)]) (by exact λ_=>⟨rfl,rfl⟩) (by rfl) ?_;conv=>whnf
  refine BslQ.o Ae ([(0:Int)]) (by exact λ_=>⟨rfl,rfl⟩) (by rfl) ?_;conv=>whnf
  refine BslQ.o Ae ([(0:Int),(1:Int)]) (by exact λ_=>⟨rfl,rfl⟩) (by rfl) ?_;conv=>whnf
  refine BslQ.o Ae ([(1:Int),(0:Int)]) (by exact λ_=>⟨rfl,rfl⟩) (by rfl) ?_;conv=>whnf
  refine BslQ.o (Ca true) ([{ Left:=[(0:Int),(0:Int)],Right:=[(0:Int)] },{ Left:=[(0:Int),(1:Int)],Right:=[(1:Int),(0:Int)] }]) (by exact λ_=>⟨rfl,rfl⟩) (by rfl) ?_;conv=>whnf
  refine SetKids.lit rfl ?_;conv=>whnf
  cases h;exact (by rfl)
 conv=>whnf
 refine Br.ob h (λp6 h=> ?_) (λp6 h=> ?_)
 ·conv=>whnf
  refine BslQ.o Ae ([(0:Int),(0:Int),(0:Int)]) (by exact λ_=>⟨rfl,rfl⟩) (by rfl) ?_;conv=>whnf
  refine BslQ.o Ae ([(0:Int)]) (by exact λ_=>⟨rfl,rfl⟩) (by rfl) ?_;conv=>whnf
  refine BslQ.o Ae ([(0:Int),(0:Int),(1:Int)]) (by exact λ_=>⟨rfl,rfl⟩) (by rfl) ?_;conv=>whnf
  refine BslQ.o Ae ([(0:Int),(1:Int),(0:Int)]) (by exact λ_=>⟨rfl,rfl⟩) (by rfl) ?_;conv=>whnf
  refine BslQ.o Ae ([(0:Int),(1:Int),(0:Int)]) (by exact λ_=>⟨rfl,rfl⟩) (by rfl) ?_;conv=>whnf
  refine BslQ.o Ae ([(1:Int),(0:Int),(0:Int)]) (by exact λ_=>⟨rfl,rfl⟩) (by rfl) ?_;conv=>whnf
  refine BslQ.o (Ca true) ([{ Left:=[(0:Int),(0:Int),(0:Int)],Right:=[(0:Int)] },{ Left:=[(0:Int),(0:Int),(1:Int)],Right:=[(0:Int),(1:Int),(0:Int)] },{ Left:=[(0:Int),(1:Int),(0:Int)],Right:=[(1:Int),(0:Int),(0:Int)] }]) (by exact λ_=>⟨rfl,rfl⟩) (by rfl) ?_;conv=>whnf
  refine SetKids.lit rfl ?_;conv=>whnf
  cases h;exact (by rfl)
 conv=>whnf
 refine SetKids.lit rfl ?_;conv=>whnf
 cases h;exact (by rfl)
noncomputable def Cn (known0:Int) (arity0:Int) (before0:Int):(Int×Int)->Option ((Int×Int) ⊕ (Unit ⊕ Unit)):=λ(x9,x2)=>
 if x9<arity0 then
 ask (known0≠(0:Int)) <|
 if x2.tmod known0>=before0 then
 some (.inr (.inl ()))
 else
 ask (known0≠(0:Int)/\InI (x2.tdiv known0)) <|
 ask (InI (x9+(1:Int))) <|
 some (.inl (x9+(1:Int),x2.tdiv known0))
 else
 some (.inr (.inr ()))
def Nt (known0:Int) (arity0:Int) (before0:Int):(Int×Int)->St:=λs=>[(9,A.val (Ae s.1)),(0,A.val (Ae known0)),(1,A.val (Ae arity0)),(2,A.val (Ae s.2)),(3,A.val (Ae before0))]
def Vk (_known0:Int) (_arity0:Int) (before0:Int):(Unit ⊕ Unit)->Tgt
 | (.inl _s)=>(Ex.ret,[8],[(8,A.val (V.bool true))])
 | (.inr _s)=>((Ex.exit 0),[3],[(3,A.val (Ae before0))])
theorem Af2 {known0} {arity0} {before0} (s) o (h:Cn known0 arity0 before0 s=some o):vc Try.prog Vp (Ch [9,0,1,2,3] (Nt known0 arity0 before0) (Vk known0 arity0 before0) o) (Nt known0 arity0 before0 s):=by
 obtain ⟨x9,x2⟩:=s;unfold Cn at h;try dsimp only at h
 refine Br.od h (λp1 h=> ?_) (λp1 h=> ?_)
 ·refine Ask.o h λp2 h=>Br.od h (λp3 h=> ?_) (λp3 h=> ?_)
  ·cases h;exact ⟨rfl,rfl⟩
  refine Ask.o h λp4 h=>Ask.o h λp5 h=> ?_
  cases h;exact ⟨rfl,rfl⟩
 cases h;exact ⟨rfl,rfl⟩
noncomputable def Kp (known0:Int) (arity0:Int) (at0:Int) (before0:Int):Option Bool:=
 (Aq (Cn known0 arity0 before0) ((0:Int),at0)).bind λt=>match t with
 | (.inl _)=>(some true)
 | (.inr _)=>(some (before0==(0:Int)))
theorem Amp {known0} {arity0} {at0} {before0} {v} (h:Kp known0 arity0 at0 before0=some v):Ret Try.prog Ti [Ae known0,Ae arity0,Ae at0,Ae before0] (V.bool v):=by
 refine Bn Anj (Nat.le_of_ble_eq_true rfl) ?_;unfold Kp at h;refine LoopQ.o [9,0,1,2,3] (Nt known0 arity0 before0) (Vk known0 arity0 before0) h (λs o h=>Af2 s o h) (by rfl) (by rintro (_ | _)<;>rfl) ?_;rintro (⟨⟩ | ⟨⟩) h
 ·try dsimp only at h
  cases h;exact (by rfl)
 try dsimp only at h
 cases h;exact (by rfl)
noncomputable def Cw (n0:Int) (_f0:SOp) (tables0:List (List Int)) (_places0:Int) (x18:Int) (_x9:List Int):(Int×Int)->Option ((Int×Int) ⊕ Int):=λ(x23,x11)=>
 if x23<(↑tables0.length:Int) then
 ask ((0:Int)<=x23/\x23<(↑tables0.length:Int)) <|
 ask (InI (x11*n0)) <|
 ask ((0:Int)<=x18/\x18<(↑(nth tables0 x23.toNat).length:Int)) <|
 ask (InI (x11*n0+nth (nth tables0 x23.toNat) x18.toNat)) <|
 ask (InI (x23+(1:Int))) <|
 some (.inl (x23+(1:Int),x11*n0+nth (nth tables0 x23.toNat) x18.toNat))
 else
 some (.inr x11)
def I0 (n0:Int) (f0:SOp) (tables0:List (List Int)) (places0:Int) (x18:Int) (x9:List Int):(Int×Int)->St:=λs=>[(23,A.val (Ae s.1)),(22,A.val (Ae ((↑tables0.length:Int)))),(21,A.val (slr false 1 (slr false 1 Ae) tables0)),(11,A.val (Ae s.2)),(10,A.val (Ae x18)),(18,A.val (Ae x18)),(17,A.val (Ae ((↑places0.toNat:Int)))),(9,A.val (slr true 1 Ae x9)),(5,A.val (rP true (Bd false) f0)),(0,A.val (Ae n0)),(2,A.val (slr false 1 (slr false 1 Ae) tables0))]
def Oq (n0:Int) (f0:SOp) (tables0:List (List Int)) (places0:Int) (x18:Int) (x9:List Int):Int->Tgt
 | s=>((Ex.exit 2),[11,10,18,17,9,5,0,2],[(11,A.val (Ae s)),(10,A.val (Ae x18)),(18,A.val (Ae x18)),(17,A.val (Ae ((↑places0.toNat:Int)))),(9,A.val (slr true 1 Ae x9)),(5,A.val (rP true (Bd false) f0)),(0,A.val (Ae n0)),(2,A.val (slr false 1 (slr false 1 Ae) tables0))])
theorem Y0 {n0} {f0} {tables0} {places0} {x18} {x9} (s) o (h:Cw n0 f0 tables0 places0 x18 x9 s=some o):vc Try.prog Oa (Ch [23,22,21,11,10,18,17,9,5,0,2] (I0 n0 f0 tables0 places0 x18 x9) (Oq n0 f0 tables0 places0 x18 x9) o) (I0 n0 f0 tables0 places0 x18 x9 s):=by
 obtain ⟨x23,x11⟩:=s;unfold Cw at h;try dsimp only at h
 refine Br.od h (λp3 h=> ?_) (λp3 h=> ?_)
 ·refine Len.map<|Ask.o h λp4 h=>Elem.o (by first | omega | (simp [Au] at * <;> omega))<|Ask.o h λp5 h=>Len.map<|Ask.o h λp6 h=>Elem.o (by first | omega | (simp [Au] at * <;> omega))<|Ask.o h λp7 h=>Ask.o h λp8 h=> ?_
  cases h;exact ⟨rfl,rfl⟩
 cases h;exact ⟨rfl,rfl⟩
noncomputable def C1 (n0:Int) (f0:SOp) (tables0:List (List Int)) (places0:Int):(Int×(List Int))->Option ((Int×(List Int)) ⊕ (List Int)):=λ(x18,x9)=>
 if x18<(↑places0.toNat:Int) then
 (Aq (Cw n0 f0 tables0 places0 x18 x9) ((0:Int),(0:Int))).bind λq9_11=>
 ask ((0:Int)<=q9_11/\q9_11<(↑f0.Table.length:Int)) <|
 ask ((0:Int)<=x18/\x18<(↑x9.length:Int)) <|
 ask (InI (x18+(1:Int))) <|
 some (.inl (x18+(1:Int),x9.set x18.toNat (nth f0.Table q9_11.toNat)))
 else
 some (.inr x9)
def Jf (n0:Int) (f0:SOp) (tables0:List (List Int)) (places0:Int):(Int×(List Int))->St:=λs=>[(18,A.val (Ae s.1)),(17,A.val (Ae ((↑places0.toNat:Int)))),(9,A.val (slr true 1 Ae s.2)),(5,A.val (rP true (Bd false) f0)),(0,A.val (Ae n0)),(2,A.val (slr false 1 (slr false 1 Ae) tables0))]
def Ob (_n0:Int) (_f0:SOp) (_tables0:List (List Int)) (_places0:Int):(List Int)->Tgt
 | s=>((Ex.exit 0),[9],[(9,A.val (slr true 1 Ae s))])
theorem Yz {n0} {f0} {tables0} {places0} (s) o (h:C1 n0 f0 tables0 places0 s=some o):vc Try.prog N8 (Ch [18,17,9,5,0,2] (Jf n0 f0 tables0 places0) (Ob n0 f0 tables0 places0) o) (Jf n0 f0 tables0 places0 s):=by
 obtain ⟨x18,x9⟩:=s;unfold C1 at h;try dsimp only at h
 refine Br.od h (λp2 h=> ?_) (λp2 h=> ?_)
 ·refine Len.map<|LoopQ.o [23,22,21,11,10,18,17,9,5,0,2] (I0 n0 f0 tables0 places0 x18 x9) (Oq n0 f0 tables0 places0 x18 x9) h (λs o h=>Y0 s o h) (by rfl) (λ_=>rfl) ?_
  rintro q9_11 h;try dsimp only at h
  refine Cells.lit rfl rfl<|Len.map<|Ask.o h λp10 h=>Elem.o (by first | omega | (simp [Au] at * <;> omega))<|Len.map<|Ask.o h λp11 h=>SetKids.one (λ_=>⟨rfl,rfl⟩) (nth f0.Table q9_11.toNat) (by rfl) (by first | omega | (simp [Au] at * <;> omega))<|Ask.o h λp12 h=> ?_
  cases h;exact ⟨rfl,rfl⟩
 cases h;exact ⟨rfl,rfl⟩
noncomputable def Dz (n0:Int) (f0:SOp) (tables0:(List (List Int))) (places0:Int):Option (List Int):=
 ask ((0:Int)<=places0/\places0<=(↑LIM:Int)) <|
 (Aq (C1 n0 f0 tables0 places0) ((0:Int),List.replicate places0.toNat (0:Int))).bind λq13_9=>
 some q13_9
theorem Ll {n0} {f0} {tables0} {places0} {v} (h:Dz n0 f0 tables0 places0=some v):Ret Try.prog Gi [Ae n0,(Bd false) f0,(slr false 1 (slr false 1 Ae)) tables0,Ae places0] (slr true 1 Ae v):=by
 refine Bn Acg (Nat.le_of_ble_eq_true rfl) ?_;unfold Dz at h;refine Ask.o h λp1 h=>MkQ.o Ae ((0:Int)) rfl<|Len.mrep<|LoopQ.o [18,17,9,5,0,2] (Jf n0 f0 tables0 places0) (Ob n0 f0 tables0 places0) h (λs o h=>Yz s o h) (by rfl) (λ_=>rfl) ?_
 rintro q13_9 h;try dsimp only at h
 cases h;exact (by rfl)
noncomputable def H9 (list0:(List Int)):Option (List Int):=
 ask ((Av Int).length+(list0).length<=LIM) <|
 some (Av Int++list0)
theorem P4 {list0} {v} (h:H9 list0=some v):Ret Try.prog Jy [(slr false 1 Ae) list0] (slr true 1 Ae v):=by
 refine Bn Aun (Nat.le_of_ble_eq_true rfl) ?_;unfold H9 at h;refine BslQ.o Ae (Av Int) (by exact λ_=>⟨rfl,rfl⟩) (by rfl)<|AppQ.o (m:=1) Ae (by exact λ_=>⟨rfl,rfl⟩) (Av Int) (list0) (by rfl) (by rfl) h λh=> ?_
 cases h;exact (by rfl)
noncomputable def Gt (c0:Sl1Cur):Option (Int×Sl1Cur):=
 ((if c0.at_<(↑c0.code.length:Int) then
 ask ((0:Int)<=c0.at_/\c0.at_<(↑c0.code.length:Int)) <|
 some (IntKind.i64.wrap (nth c0.code c0.at_.toNat))
 else
 some (0:Int):Option Int)).bind λq3_3=>
 ask (InI (c0.at_+(1:Int))) <|
 if c0.at_+(1:Int)<=(↑c0.code.length:Int) then
 some (q3_3,{ code:=c0.code,at_:=c0.at_+(1:Int),seed:=IntKind.u64.wrap (IntKind.u64.wrap (IntKind.u64.wrap (c0.seed*(6364136223846793005:Int))+IntKind.u64.wrap q3_3)+(550289:Int)) })
 else
 some (IntKind.i64.wrap (IntKind.u64.wrap (↑(BitVec.ofInt IntKind.u64.bits ((IntKind.u64.wrap (IntKind.u64.wrap (IntKind.u64.wrap (c0.seed*(6364136223846793005:Int))+IntKind.u64.wrap q3_3)+(550289:Int))).fdiv ((2:Int)^min (Int.toNat (40:Int)) IntKind.u64.bits)) &&& BitVec.ofInt IntKind.u64.bits (255:Int)).toNat:Int)),{ code:=c0.code,at_:=c0.at_+(1:Int),seed:=IntKind.u64.wrap (IntKind.u64.wrap (IntKind.u64.wrap (c0.seed*(6364136223846793005:Int))+IntKind.u64.wrap q3_3)+(550289:Int)) })
theorem Ww {c0} {v} (h:Gt c0=some v):Sn Try.prog K7 [(rP true (Al false)) c0] (Ae v.1) 0 (rP true (Al false) v.2):=by
 refine Ql Ai8 (Nat.le_of_ble_eq_true rfl) ?_;unfold Gt at h;refine CutQ.o (λt:Int=>match t with | s=>(Ex.normal,[3,0,62],[(3,A.val (Ae s)),(0,A.ref 62 []),(62,A.val ((rP true (Al false)) (c0)))])) h ?_ ?_
 ·intro t h;refine Cells.lit rfl rfl<|Cells.lit rfl rfl<|Len.map<|Br.od h (λp1 h=> ?_) (λp1 h=> ?_)
  ·refine Cells.lit rfl rfl<|Cells.lit rfl rfl<|Len.map<|Ask.o h λp2 h=>Elem.o (by first | omega | (simp [Au] at * <;> omega)) ?_
   cases h;exact ⟨rfl,rfl⟩
  cases h;exact ⟨rfl,rfl⟩
 rintro q3_3 h;try dsimp only at h
 refine Cells.lit rfl rfl<|Ask.o h λp4 h=>SetKids.lit rfl<|Cells.lit rfl rfl<|SetKids.lit rfl<|Cells.lit rfl rfl<|Cells.lit rfl rfl<|Len.map<|Br.od h (λp5 h=> ?_) (λp5 h=> ?_)
 ·cases h;exact ⟨(by rfl),(by rfl)⟩
 refine Cells.lit rfl rfl ?_;cases h;exact ⟨(by rfl),(by rfl)⟩
noncomputable def Nd (a0:Int) (b0:Int):Option Int:=
 if a0>b0 then
 some a0
 else
 some b0
theorem Ard {a0} {b0} {v} (h:Nd a0 b0=some v):Ret Try.prog Xc [Ae a0,Ae b0] (Ae v):=by
 refine Bn Aqu (Nat.le_of_ble_eq_true rfl) ?_;unfold Nd at h;refine Br.od h (λp1 h=> ?_) (λp1 h=> ?_)
 ·cases h;exact (by rfl)
 cases h;exact (by rfl)
end Go.Proofs.Ytaalgpkajkogkaa.Ax
