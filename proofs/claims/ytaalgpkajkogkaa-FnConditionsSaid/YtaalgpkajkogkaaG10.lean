/-
 What the functions compute, as functions on plain data, and that the program does compute it; written by program.
-/
import Derived.Test.YtaalgpkajkogkaaCode
import Derived.Test.YtaalgpkajkogkaaG2
import Derived.Test.YtaalgpkajkogkaaG5
import Derived.Test.YtaalgpkajkogkaaG7
import Derived.Test.YtaalgpkajkogkaaG8
import Derived.Test.YtaalgpkajkogkaaG9
namespace Go.Proofs.Ytaalgpkajkogkaa.Ax
open Go
set_option maxRecDepth 100000
set_option maxHeartbeats 4000000
noncomputable def Ee (_x4:Int) (x3:SCondition):(Int×SRule×Sl1Cur)->Option ((Int×SRule×Sl1Cur) ⊕ (SRule×Sl1Cur)):=λ(x6,x5,x113')=>
 if x6<x3.Arity then
 (As (x113') ((2:Int))).bind λ(r12,u13)=>
 ask ((x5.Left).length+([r12]).length<=LIM) <|
 ask (InI (x6+(1:Int))) <|
 some (.inl (x6+(1:Int),{ Left:=x5.Left++[r12],Right:=x5.Right },u13))
 else
 some (.inr (x5,x113'))
def Hy (x4:Int) (x3:SCondition):(Int×SRule×Sl1Cur)->St:=λs=>[(6,A.val (Ae s.1)),(5,A.val (rP true (Ca true) s.2.1)),(4,A.val (Ae x4)),(3,A.val (rP true (Ah true) x3)),(2,A.val ((rP true (Ah true)) ({ Arity:=(0:Int),Rules:=Av SRule }))),(0,A.ref 113 []),(113,A.val (rP true (Al false) s.2.2))]
def Mh (x4:Int) (x3:SCondition):(SRule×Sl1Cur)->Tgt
 | s=>((Ex.exit 2),[5,4,3,2,0,113],[(5,A.val (rP true (Ca true) s.1)),(4,A.val (Ae x4)),(3,A.val (rP true (Ah true) x3)),(2,A.val ((rP true (Ah true)) ({ Arity:=(0:Int),Rules:=Av SRule }))),(0,A.ref 113 []),(113,A.val (rP true (Al false) s.2))])
theorem Wa {x4} {x3} (s) o (h:Ee x4 x3 s=some o):vc Try.prog Mi (Ch [6,5,4,3,2,0,113] (Hy x4 x3) (Mh x4 x3) o) (Hy x4 x3 s):=by
 obtain ⟨x6,x5,x113'⟩:=s;unfold Ee at h;try dsimp only at h
 refine Cells.lit rfl rfl<|Br.od h (λp11 h=> ?_) (λp11 h=> ?_)
 ·refine Cells.lit rfl rfl<|LendP.io Ae (rP true (Al false)) (by rfl) (λ_=>rfl) (λ_=>⟨rfl,rfl⟩) (λ_=>rfl) h (λr h=>At h) (λr12 u13 h=> ?_)
  refine BslQ.o Ae [r12] (by exact λ_=>⟨rfl,rfl⟩) (by rfl)<|NoOwn.o (λ_=>rfl)<|Kid.lit rfl rfl<|Kid.lit rfl rfl<|SetKids.lit rfl<|AppQ.o (m:=1) Ae (by exact λ_=>⟨rfl,rfl⟩) (x5.Left) ([r12]) (by rfl) (by rfl) h λh=>SetKids.lit rfl<|Ask.o h λp14 h=> ?_
  cases h;exact ⟨rfl,rfl⟩
 cases h;exact ⟨rfl,rfl⟩
noncomputable def Ec (_x4:Int) (x3:SCondition):(Int×SRule×Sl1Cur)->Option ((Int×SRule×Sl1Cur) ⊕ (SRule×Sl1Cur)):=λ(x7,x5,x113')=>
 if x7<x3.Arity then
 (As (x113') ((2:Int))).bind λ(r20,u21)=>
 ask ((x5.Right).length+([r20]).length<=LIM) <|
 ask (InI (x7+(1:Int))) <|
 some (.inl (x7+(1:Int),{ Left:=x5.Left,Right:=x5.Right++[r20] },u21))
 else
 some (.inr (x5,x113'))
def H3 (x4:Int) (x3:SCondition):(Int×SRule×Sl1Cur)->St:=λs=>[(7,A.val (Ae s.1)),(5,A.val (rP true (Ca true) s.2.1)),(4,A.val (Ae x4)),(3,A.val (rP true (Ah true) x3)),(2,A.val ((rP true (Ah true)) ({ Arity:=(0:Int),Rules:=Av SRule }))),(0,A.ref 113 []),(113,A.val (rP true (Al false) s.2.2))]
def Mc (x4:Int) (x3:SCondition):(SRule×Sl1Cur)->Tgt
 | s=>((Ex.exit 4),[5,4,3,2,0,113],[(5,A.val (rP true (Ca true) s.1)),(4,A.val (Ae x4)),(3,A.val (rP true (Ah true) x3)),(2,A.val ((rP true (Ah true)) ({ Arity:=(0:Int),Rules:=Av SRule }))),(0,A.ref 113 []),(113,A.val (rP true (Al false) s.2))])
theorem V9 {x4} {x3} (s) o (h:Ec x4 x3 s=some o):vc Try.prog Mg (Ch [7,5,4,3,2,0,113] (H3 x4 x3) (Mc x4 x3) o) (H3 x4 x3 s):=by
 obtain ⟨x7,x5,x113'⟩:=s;unfold Ec at h;try dsimp only at h
 refine Cells.lit rfl rfl<|Br.od h (λp19 h=> ?_) (λp19 h=> ?_)
 ·refine Cells.lit rfl rfl<|LendP.io Ae (rP true (Al false)) (by rfl) (λ_=>rfl) (λ_=>⟨rfl,rfl⟩) (λ_=>rfl) h (λr h=>At h) (λr20 u21 h=> ?_)
  refine BslQ.o Ae [r20] (by exact λ_=>⟨rfl,rfl⟩) (by rfl)<|NoOwn.o (λ_=>rfl)<|Kid.lit rfl rfl<|Kid.lit rfl rfl<|SetKids.lit rfl<|AppQ.o (m:=1) Ae (by exact λ_=>⟨rfl,rfl⟩) (x5.Right) ([r20]) (by rfl) (by rfl) h λh=>SetKids.lit rfl<|Ask.o h λp22 h=> ?_
  cases h;exact ⟨rfl,rfl⟩
 cases h;exact ⟨rfl,rfl⟩
noncomputable def Ed:(Int×SCondition×Sl1Cur)->Option ((Int×SCondition×Sl1Cur) ⊕ (SCondition×Sl1Cur)):=λ(x4,x3,x113)=>
 if x4>(0:Int) then
 (As (x113) ((2:Int))).bind λ(r9,u10)=>
 (Aq (Ee x4 x3) ((0:Int),{ Left:=Av Int,Right:=[r9] },u10)).bind λ(q15_5,q15_113)=>
 (Bt (q15_113) ((2:Int))).bind λ(r16,u17)=>
 if (r16)=true then
 (Aq (Ec x4 x3) ((1:Int),q15_5,u17)).bind λ(q23_5,q23_113)=>
 ask ((x3.Rules).length+([q23_5]).length<=LIM) <|
 ask (InI (x4-(1:Int))) <|
 some (.inl (x4-(1:Int),{ Arity:=x3.Arity,Rules:=x3.Rules++[q23_5] },q23_113))
 else
 ask ((x3.Rules).length+([q15_5]).length<=LIM) <|
 ask (InI (x4-(1:Int))) <|
 some (.inl (x4-(1:Int),{ Arity:=x3.Arity,Rules:=x3.Rules++[q15_5] },u17))
 else
 some (.inr (x3,x113))
def Hv:(Int×SCondition×Sl1Cur)->St:=λs=>[(4,A.val (Ae s.1)),(3,A.val (rP true (Ah true) s.2.1)),(2,A.val ((rP true (Ah true)) ({ Arity:=(0:Int),Rules:=Av SRule }))),(0,A.ref 113 []),(113,A.val (rP true (Al false) s.2.2))]
def Me:(SCondition×Sl1Cur)->Tgt
 | s=>((Ex.exit 0),[3,2,0,113],[(3,A.val (rP true (Ah true) s.1)),(2,A.val ((rP true (Ah true)) ({ Arity:=(0:Int),Rules:=Av SRule }))),(0,A.ref 113 []),(113,A.val (rP true (Al false) s.2))])
theorem V8 s o (h:Ed s=some o):vc Try.prog Mq (Ch [4,3,2,0,113] (Hv) Me o) (Hv s):=by
 obtain ⟨x4,x3,x113⟩:=s;unfold Ed at h;try dsimp only at h
 refine Br.od h (λp8 h=> ?_) (λp8 h=> ?_)
 ·refine BslQ.o Ae (Av Int) (by exact λ_=>⟨rfl,rfl⟩) (by rfl)<|CallQ.io Ae (rP true (Al false)) (by rfl) rfl (λ_=>rfl) (λ_=>⟨rfl,rfl⟩) rfl h (λr h=>At h) (λr9 u10 h=> ?_)
  refine BslQ.o Ae [r9] (by exact λ_=>⟨rfl,rfl⟩) (by rfl)<|SetKids.lit rfl<|LoopQ.o [6,5,4,3,2,0,113] (Hy x4 x3) (Mh x4 x3) h (λs o h=>Wa s o h) (by rfl) (λ_=>rfl) ?_
  rintro ⟨q15_5,q15_113⟩ h;try dsimp only at h
  refine CallQ.io V.bool (rP true (Al false)) (by rfl) rfl (λ_=>rfl) (λ_=>⟨rfl,rfl⟩) rfl h (λr h=>Dj h) (λr16 u17 h=> ?_);refine Br.ob h (λp18 h=> ?_) (λp18 h=> ?_)
  ·refine LoopQ.o [7,5,4,3,2,0,113] (H3 x4 x3) (Mc x4 x3) h (λs o h=>V9 s o h) (by rfl) (λ_=>rfl) ?_;rintro ⟨q23_5,q23_113⟩ h;try dsimp only at h
   refine Cells.lit rfl rfl<|Cells.lit rfl rfl<|BslQ.o (Ca true) [q23_5] (by exact λ_=>⟨rfl,rfl⟩) (by rfl)<|NoOwn.own rfl<|Kid.lit rfl rfl<|Kid.lit rfl rfl<|SetKids.lit rfl<|AppQ.o (m:=2) (Ca true) (by exact λ_=>⟨rfl,rfl⟩) (x3.Rules) ([q23_5]) (by rfl) (by rfl) h λh=>SetKids.lit rfl<|Ask.o h λp24 h=> ?_
   cases h;exact ⟨rfl,rfl⟩
  refine Cells.lit rfl rfl<|Cells.lit rfl rfl<|BslQ.o (Ca true) [q15_5] (by exact λ_=>⟨rfl,rfl⟩) (by rfl)<|NoOwn.own rfl<|Kid.lit rfl rfl<|Kid.lit rfl rfl<|SetKids.lit rfl<|AppQ.o (m:=2) (Ca true) (by exact λ_=>⟨rfl,rfl⟩) (x3.Rules) ([q15_5]) (by rfl) (by rfl) h λh=>SetKids.lit rfl<|Ask.o h λp25 h=> ?_
  cases h;exact ⟨rfl,rfl⟩
 cases h;exact ⟨rfl,rfl⟩
noncomputable def Eb:(SCondition×Sl1Cur)->Option ((SCondition×Sl1Cur) ⊕ (SCondition×Sl1Cur)):=λ(x3,x113)=>
 (As (x113) ((2:Int))).bind λ(r41,u42)=>
 ask (InI ((6:Int)+r41)) <|
 if (↑x3.Rules.length:Int)<(6:Int)+r41 then
 ask ((0:Int)<=(0:Int)/\(0:Int)<(↑x3.Rules.length:Int)) <|
 ask ((x3.Rules).length+([nth x3.Rules (Int.toNat (0:Int))]).length<=LIM) <|
 some (.inl ({ Arity:=x3.Arity,Rules:=x3.Rules++[nth x3.Rules (Int.toNat (0:Int))] },u42))
 else
 some (.inr (x3,u42))
def Hw:(SCondition×Sl1Cur)->St:=λs=>[(3,A.val (rP true Uc s.1)),(2,A.val ((rP true (Ah true)) ({ Arity:=(0:Int),Rules:=Av SRule }))),(0,A.ref 113 []),(113,A.val (rP true (Al false) s.2))]
def Md:(SCondition×Sl1Cur)->Tgt
 | s=>((Ex.exit 7),[3,2,113],[(3,A.val (rP true Uc s.1)),(2,A.val ((rP true (Ah true)) ({ Arity:=(0:Int),Rules:=Av SRule }))),(113,A.val (rP true (Al false) s.2))])
theorem Wc s o (h:Eb s=some o):vc Try.prog Mn (Ch [3,2,0,113] (Hw) Md o) (Hw s):=by
 obtain ⟨x3,x113⟩:=s;unfold Eb at h;try dsimp only at h
 refine Cells.lit rfl rfl<|Kid.lit rfl rfl<|Len.map<|LendP.io Ae (rP true (Al false)) (by rfl) (λ_=>rfl) (λ_=>⟨rfl,rfl⟩) (λ_=>rfl) h (λr h=>At h) (λr41 u42 h=> ?_)
 refine Ask.o h λp43 h=>Br.od h (λp44 h=> ?_) (λp44 h=> ?_)
 ·refine Cells.lit rfl rfl<|Cells.lit rfl rfl<|Kid.lit rfl rfl<|Len.map<|Ask.o h λp45 h=>Kid.lit rfl rfl<|Cells.wide0 (by exact λ_=>⟨rfl,rfl⟩) (by first | omega | (simp [Au] at * <;> omega)) (by decide)<|BslQ.o (Ca false) ([nth x3.Rules (Int.toNat (0:Int))]) (by exact λ_=>⟨rfl,rfl⟩) (by rfl)<|NoOwn.o (λ_=>rfl)<|Kid.lit rfl rfl<|Kid.lit rfl rfl<|SetKids.lit rfl<|AppQ.o (m:=2) (Ca false) (by exact λ_=>⟨rfl,rfl⟩) (x3.Rules) ([nth x3.Rules (Int.toNat (0:Int))]) (by rfl) (by rfl) h λh=>SetKids.lit rfl ?_
  cases h;exact ⟨rfl,rfl⟩
 cases h;exact ⟨rfl,rfl⟩
noncomputable def Df (c0:Sl1Cur):Option (SCondition×Sl1Cur):=
 (Bt (c0) ((4:Int))).bind λ(r1,u2)=>
 if (r1)=true then
 (A5 (u2) ([(2:Int),(2:Int),(3:Int)])).bind λ(r4,u5)=>
 (A5 (u5) ([(1:Int),(1:Int),(2:Int),(3:Int)])).bind λ(r6,u7)=>
 (Aq (Ed) (r6,{ Arity:=r4,Rules:=Av SRule },u7)).bind λ(q26_3,q26_113)=>
 (As (q26_113) ((12:Int))).bind λ(r27,u28)=>
 if r27=(0:Int) then
 ask (InI ((5:Int)-q26_3.Arity)) <|
 (A5 (u28) ([(1:Int),(4:Int),(5:Int)-q26_3.Arity])).bind λ(r31,u32)=>
 some ({ Arity:=r31,Rules:=q26_3.Rules },u32)
 else
 if r27=(1:Int) then
 ask ((0:Int)<=(0:Int)/\(0:Int)<(↑q26_3.Rules.length:Int)) <|
 (A5 (u28) ([(-1:Int),(2:Int)])).bind λ(r35,u36)=>
 ask ((0:Int)<=(0:Int)/\(0:Int)<(↑(nth q26_3.Rules (Int.toNat (0:Int))).Left.length:Int)) <|
 some ({ Arity:=q26_3.Arity,Rules:=q26_3.Rules.set (Int.toNat (0:Int)) { Left:=(nth q26_3.Rules (Int.toNat (0:Int))).Left.set (Int.toNat (0:Int)) r35,Right:=(nth q26_3.Rules (Int.toNat (0:Int))).Right } },u36)
 else
 if r27=(2:Int) then
 ask ((0:Int)<=(0:Int)/\(0:Int)<(↑q26_3.Rules.length:Int)) <|
 some ({ Arity:=q26_3.Arity,Rules:=q26_3.Rules.set (Int.toNat (0:Int)) { Left:=(nth q26_3.Rules (Int.toNat (0:Int))).Left,Right:=Av Int } },u28)
 else
 if r27=(3:Int) then
 (Aq (Eb) (q26_3,u28)).bind λ(q46_3,q46_113)=>
 some (q46_3,q46_113)
 else
 some (q26_3,u28)
 else
 (Kq (u2) ([(ByteArray.mk #[109,97,108,99,101,118]),(ByteArray.mk #[109,97,106,111,114,105,116,121]),(ByteArray.mk #[109,105,110,111,114,105,116,121]),(ByteArray.mk #[112,105,120,108,101,121]),(ByteArray.mk #[99,111,109,109,117,116,97,116,105,118,101]),(ByteArray.mk #[119,101,97,107])])).bind λ(r47,u48)=>
 (Kl (r47)).bind λr49=>
 some (r49,u48)
theorem Jq {c0} {v} (h:Df c0=some v):Sn Try.prog Fe [(rP true (Al false)) c0] (Ah false v.1) 0 (rP true (Al false) v.2):=by
 refine Akq Ze (Nat.le_of_ble_eq_true rfl) ?_;unfold Df at h;refine CallQ.io V.bool (rP true (Al false)) (by rfl) rfl (λ_=>rfl) (λ_=>⟨rfl,rfl⟩) rfl h (λr h=>Dj h) (λr1 u2 h=> ?_);refine Br.flip ?_;refine Br.ob h (λp3 h=> ?_) (λp3 h=> ?_)
 ·refine BslQ.o Ae ([(2:Int),(2:Int),(3:Int)]) (by exact λ_=>⟨rfl,rfl⟩) (by rfl) ?_;refine CallQ.io Ae (rP true (Al false)) (by rfl) rfl (λ_=>rfl) (λ_=>⟨rfl,rfl⟩) rfl h (λr h=>Bc h) (λr4 u5 h=> ?_);refine SetKids.lit rfl ?_;refine BslQ.o Ae ([(1:Int),(1:Int),(2:Int),(3:Int)]) (by exact λ_=>⟨rfl,rfl⟩) (by rfl) ?_;refine CallQ.io Ae (rP true (Al false)) (by rfl) rfl (λ_=>rfl) (λ_=>⟨rfl,rfl⟩) rfl h (λr h=>Bc h) (λr6 u7 h=> ?_);refine LoopQ.o [4,3,2,0,113] (Hv) (Me) h (λs o h=>V8 s o h) (by rfl) (λ_=>rfl) ?_;rintro ⟨q26_3,q26_113⟩ h;try dsimp only at h
  refine CallQ.io Ae (rP true (Al false)) (by rfl) rfl (λ_=>rfl) (λ_=>⟨rfl,rfl⟩) rfl h (λr h=>At h) (λr27 u28 h=> ?_);refine Br.oe h (λp29 h=> ?_) (λp29 h=> ?_)
  ·refine Cells.lit rfl rfl ?_;refine Ask.o h λp30 h=> ?_
   refine BslQ.o Ae ([(1:Int),(4:Int),(5:Int)-q26_3.Arity]) (by exact λ_=>⟨rfl,rfl⟩) (by rfl) ?_;refine CallQ.io Ae (rP true (Al false)) (by rfl) rfl (λ_=>rfl) (λ_=>⟨rfl,rfl⟩) rfl h (λr h=>Bc h) (λr31 u32 h=> ?_);refine SetKids.lit rfl ?_;refine Cells.lit rfl rfl ?_;refine SetKids.lit rfl ?_;cases h;exact ⟨(by first | rfl | simp only [Ai,V.fz,fzL,V.up,Ab,slr] | simp [Ai,Aa,V.fz,fzL,V.up,upL,Ab,Ac,Ad,slr]),(by rfl)⟩
  refine Br.oe h (λp33 h=> ?_) (λp33 h=> ?_)
  ·refine Cells.lit rfl rfl ?_;refine Kid.lit rfl rfl ?_;refine Len.map ?_;refine Ask.o h λp34 h=> ?_
   refine Kid.lit rfl rfl ?_;refine Cells.wide (by exact λ_=>⟨rfl,rfl⟩) (by first | omega | (simp [Au] at * <;> omega)) (by decide) ?_;refine SameQ.mk ⟨rfl,?_⟩;refine Cells.lit rfl rfl ?_;refine SameQ.mk ⟨rfl,?_⟩;refine Kid.lit rfl rfl ?_;refine Len.map ?_;refine Ask.mk p34 ?_;refine SameQ.mk ⟨rfl,?_⟩;refine SameQ.mk ⟨rfl,?_⟩;refine Kid.lit rfl rfl ?_;refine Cells.wide (by exact λ_=>⟨rfl,rfl⟩) (by first | omega | (simp [Au] at * <;> omega)) (by decide) ?_;refine SameQ.mk ⟨rfl,?_⟩;refine SameQ.mk ⟨rfl,?_⟩;refine BslQ.o Ae ([(-1:Int),(2:Int)]) (by exact λ_=>⟨rfl,rfl⟩) (by rfl) ?_;refine SameQ.mk ⟨rfl,?_⟩;refine Cells.lit rfl rfl ?_;refine SameQ.mk ⟨rfl,?_⟩;refine Kid.lit rfl rfl ?_;refine Len.map ?_;refine Ask.mk p34 ?_;refine SameQ.mk ⟨rfl,?_⟩;refine SameQ.mk ⟨rfl,?_⟩;refine Kid.lit rfl rfl ?_;refine Cells.wide (by exact λ_=>⟨rfl,rfl⟩) (by first | omega | (simp [Au] at * <;> omega)) (by decide) ?_;refine SameQ.mk ⟨rfl,?_⟩;refine SameQ.mk ⟨rfl,?_⟩;refine CallQ.io Ae (rP true (Al false)) (by rfl) rfl (λ_=>rfl) (λ_=>⟨rfl,rfl⟩) rfl h (λr h=>Bc h) (λr35 u36 h=> ?_);refine SameQ.mk ⟨rfl,?_⟩;refine Cells.lit rfl rfl ?_;refine SameQ.mk ⟨rfl,?_⟩;refine Kid.lit rfl rfl ?_;refine Len.map ?_;refine Ask.mk p34 ?_;refine SameQ.mk ⟨rfl,?_⟩;refine SameQ.mk ⟨rfl,?_⟩;refine Kid.lit rfl rfl ?_;refine Cells.wide (by exact λ_=>⟨rfl,rfl⟩) (by first | omega | (simp [Au] at * <;> omega)) (by decide) ?_;refine SameQ.mk ⟨rfl,?_⟩;refine Kid.lit rfl rfl ?_;refine Kid.wide (by exact λ_=>⟨rfl,rfl⟩) (by first | omega | (simp [Au] at * <;> omega)) (by rfl) ?_;refine Len.map ?_;refine Ask.o h λp37 h=> ?_
   refine Kid.lit rfl rfl ?_;refine Kid.wide (by exact λ_=>⟨rfl,rfl⟩) (by first | omega | (simp [Au] at * <;> omega)) (by rfl) ?_;refine SetKids.one (λ_=>⟨rfl,rfl⟩) (r35) (by rfl) (by first | omega | (simp [Au] at * <;> omega)) ?_;refine Kid.lit rfl rfl ?_;refine Kid.wide (by exact λ_=>⟨rfl,rfl⟩) (by first | omega | (simp [Au] at * <;> omega)) (by rfl) ?_;refine SetKids.wide (by exact λ_=>⟨rfl,rfl⟩) ({ Left:=(nth q26_3.Rules (Int.toNat (0:Int))).Left.set (Int.toNat (0:Int)) r35,Right:=(nth q26_3.Rules (Int.toNat (0:Int))).Right }) (by first | omega | (simp [Au] at * <;> omega)) (by rfl) (by decide) ?_;refine SetKids.lit rfl ?_;refine Cells.lit rfl rfl ?_;refine SetKids.lit rfl ?_;cases h;exact ⟨(by first | rfl | simp only [Ai,V.fz,fzL,V.up,Ab] | simp [Ai,Aa,V.fz,fzL,V.up,upL,Ab,Ac,Ad,slr]),(by rfl)⟩
  refine Br.oe h (λp38 h=> ?_) (λp38 h=> ?_)
  ·refine Cells.lit rfl rfl ?_;refine BslQ.o Ae (Av Int) (by exact λ_=>⟨rfl,rfl⟩) (by rfl) ?_;refine Kid.lit rfl rfl ?_;refine Len.map ?_;refine Ask.o h λp39 h=> ?_
   refine Kid.lit rfl rfl ?_;refine SetKids.wide (by exact λ_=>⟨rfl,rfl⟩) ({ Left:=(nth q26_3.Rules (Int.toNat (0:Int))).Left,Right:=Av Int }) (by first | omega | (simp [Au] at * <;> omega)) (by rfl) (by decide) ?_;refine Kid.lit rfl rfl ?_;refine SetKids.lit rfl ?_;refine Cells.lit rfl rfl ?_;refine SetKids.lit rfl ?_;cases h;exact ⟨(by first | rfl | simp only [Ai,V.fz,fzL,V.up,Ab] | simp [Ai,Aa,V.fz,fzL,V.up,upL,Ab,Ac,Ad,slr]),(by rfl)⟩
  refine Br.oe h (λp40 h=> ?_) (λp40 h=> ?_)
  ·refine FrzQ.d (V.ptr true (V.agg [V.int IntKind.i64 q26_3.Arity,V.sl true (2:Nat) (List.map (Ca false) q26_3.Rules)])) (by first | (simp only [V.fzAt,Dr,Im,Ab];done) | exact Eq.trans (b:=V.ptr true (V.agg [V.int IntKind.i64 q26_3.Arity,V.sl true (2:Nat) (List.map (Ca false) q26_3.Rules)])) rfl (by simp only [Ac])) ?_;refine LoopQ.o [3,2,0,113] (Hw) (Md) h (λs o h=>Wc s o h) (by rfl) (λ_=>rfl) ?_;rintro ⟨q46_3,q46_113⟩ h;try dsimp only at h
   refine Cells.lit rfl rfl ?_;refine SetKids.lit rfl ?_;cases h;exact ⟨(by first | rfl | simp only [Ai,V.fz,fzL,V.up,Ab,slr] | simp [Ai,Aa,V.fz,fzL,V.up,upL,Ab,Ac,Ad,slr]),(by rfl)⟩
  refine Cells.lit rfl rfl ?_;refine SetKids.lit rfl ?_;cases h;exact ⟨(by first | rfl | simp only [Ai,V.fz,fzL,V.up,Ab,slr] | simp [Ai,Aa,V.fz,fzL,V.up,upL,Ab,Ac,Ad,slr]),(by rfl)⟩
 refine BslQ.o V.str ([(ByteArray.mk #[109,97,108,99,101,118]),(ByteArray.mk #[109,97,106,111,114,105,116,121]),(ByteArray.mk #[109,105,110,111,114,105,116,121]),(ByteArray.mk #[112,105,120,108,101,121]),(ByteArray.mk #[99,111,109,109,117,116,97,116,105,118,101]),(ByteArray.mk #[119,101,97,107])]) (by exact λ_=>⟨rfl,rfl⟩) (by rfl) ?_;refine CallQ.io V.str (rP true (Al false)) (by rfl) rfl (λ_=>rfl) (λ_=>⟨rfl,rfl⟩) rfl h (λr h=>Amb h) (λr47 u48 h=> ?_);refine CallQ.o (Ah true) (by rfl) h (λr h=>Amm h) (λr49 h=> ?_);refine SetKids.lit rfl ?_;cases h;exact ⟨(by first | rfl | simp only [Ai,V.fz,fzL,V.up,Ab,slr] | simp [Ai,Aa,V.fz,fzL,V.up,upL,Ab,Ac,Ad,slr]),(by rfl)⟩
noncomputable def E0 (a0:SAlgebra) (c0:SCondition):Option Bool:=
 (I1 (a0)).bind λr1=>
 if (r1)=true then
 if a0.Size<=(4:Int) then
 (Hp (c0)).bind λr4=>
 some r4
 else
 some false
 else
 some false
theorem Ma {a0} {c0} {v} (h:E0 a0 c0=some v):Ret Try.prog Hi [(Aj false) a0,(Ah false) c0] (V.bool v):=by
 refine Bn Ajt (Nat.le_of_ble_eq_true rfl) ?_;unfold E0 at h;refine Cells.lit rfl rfl<|CallQ.o V.bool (by rfl) h (λr h=>Aj9 h) (λr1 h=> ?_)
 refine Br.ob h (λp2 h=> ?_) (λp2 h=> ?_)
 ·refine Br.yes<|Cells.lit rfl rfl<|Br.yes<|Br.yes<|Br.od h (λp3 h=> ?_) (λp3 h=> ?_)
  ·refine Cells.lit rfl rfl<|Br.yes<|CallQ.o V.bool (by rfl) h (λr h=>Agj h) (λr4 h=> ?_)
   refine Br.yes ?_;cases h;exact (by rfl)
  refine Br.no<|Br.no ?_
  cases h;exact (by rfl)
 refine Br.no<|Br.no<|Br.no<|Br.no<|Br.no<|Br.no ?_
 cases h;exact (by rfl)
noncomputable def Dy (c0:SCondition):(Int×(List (List Int)))->Option ((Int×(List (List Int))) ⊕ (List (List Int))):=λ(x12,x3)=>
 if x12<(↑c0.Rules.length:Int) then
 ask ((0:Int)<=x12/\x12<(↑c0.Rules.length:Int)) <|
 (Fn ((nth c0.Rules x12.toNat).Left) (c0) (x3)).bind λ(_r3,u4)=>
 (Fn ((nth c0.Rules x12.toNat).Right) (c0) (u4)).bind λ(_r5,u6)=>
 ask (InI (x12+(1:Int))) <|
 some (.inl (x12+(1:Int),u6))
 else
 some (.inr x3)
def Ly (c0:SCondition):(Int×(List (List Int)))->St:=λs=>[(12,A.val (Ae s.1)),(11,A.val (Ae ((↑c0.Rules.length:Int)))),(10,A.val (slr false 2 (Ca false) c0.Rules)),(4,A.clo Iv [A.ref (1:Nat) [],A.ref (3:Nat) []]),(3,A.val (rP true (slr true 1 (slr true 1 Ae)) s.2)),(1,A.val (rP true (Ah false) c0))]
def Sy (_c0:SCondition):(List (List Int))->Tgt
 | s=>((Ex.exit 0),[3],[(3,A.val (rP true (slr true 1 (slr true 1 Ae)) s))])
theorem Ab2 {c0} (s) o (h:Dy c0 s=some o):vc Try.prog R9 (Ch [12,11,10,4,3,1] (Ly c0) (Sy c0) o) (Ly c0 s):=by
 obtain ⟨x12,x3⟩:=s;unfold Dy at h;try dsimp only at h
 refine Br.od h (λp1 h=> ?_) (λp1 h=> ?_)
 ·refine Len.map<|Ask.o h λp2 h=>Elem.o (by first | omega | (simp [Au] at * <;> omega))<|SetKids.lit rfl<|Cells.lit rfl rfl<|CallQ.io (λr=>V.tup []) (rP true (slr true 1 (slr true 1 Ae))) (by rfl) rfl (λ_=>rfl) (λ_=>⟨by first | rfl | simp [Co,V.noFz,Bb],rfl⟩) rfl h (λr h=>T3 h) (λr3 u4 h=> ?_)
  refine Cells.lit rfl rfl<|CallQ.io (λr=>V.tup []) (rP true (slr true 1 (slr true 1 Ae))) (by rfl) rfl (λ_=>rfl) (λ_=>⟨by first | rfl | simp [Co,V.noFz,Bb],rfl⟩) rfl h (λr h=>T3 h) (λr5 u6 h=> ?_)
  refine Ask.o h λp7 h=> ?_
  cases h;exact ⟨rfl,rfl⟩
 cases h;exact ⟨rfl,rfl⟩
noncomputable def Ek (c0:SCondition):Option (List (List Int)):=
 (Aq (Dy c0) ((0:Int),Av (List Int))).bind λq8_3=>
 some q8_3
theorem K1 {c0} {v} (h:Ek c0=some v):Ret Try.prog Gq [(Ah false) c0] (slr true 1 (slr true 1 Ae) v):=by
 refine Bn Ahw (Nat.le_of_ble_eq_true rfl) ?_;unfold Ek at h;refine BslQ.o (slr true 1 Ae) (Av (List Int)) (by exact λ_=>⟨rfl,rfl⟩) (by rfl)<|SetKids.lit rfl<|Cells.lit rfl rfl<|Len.map<|LoopQ.o [12,11,10,4,3,1] (Ly c0) (Sy c0) h (λs o h=>Ab2 s o h) (by rfl) (λ_=>rfl) ?_
 rintro q8_3 h;try dsimp only at h
 refine Cells.lit rfl rfl ?_;cases h;exact (by rfl)
end Go.Proofs.Ytaalgpkajkogkaa.Ax
