/-
 What the functions compute, as functions on plain data, and that the program does compute it; written by program.
-/
import Derived.Test.YtmkgjnphianalaaGreatCode
import Derived.Test.YtmkgjnphianalaaGreatG1
import Derived.Test.YtmkgjnphianalaaGreatG2
import Derived.Test.YtmkgjnphianalaaGreatG3
namespace Go.Proofs.YtmkgjnphianalaaGreat.Ax
open Go
set_option maxRecDepth 100000
set_option maxHeartbeats 4000000
noncomputable def D1 (a0:SAlgebra) (r1:List Int) (r2:List Int) (x23:Int) (x7:SAlgebra):(Int×SOp)->Option ((Int×SOp) ⊕ SOp):=λ(x11,x10)=>
 (Hp (x7.Size) ((nth a0.Ops x23.toNat).Arity)).bind λr5=>
 if x11<r5 then
 (J2 (x11) ((nth a0.Ops x23.toNat).Arity) (x7.Size)).bind λr7=>
 (Fq (r7) (r1)).bind λr8=>
 (Im (r8) (a0.Size)).bind λr9=>
 ask ((0:Int)<=r9/\r9<(↑(nth a0.Ops x23.toNat).Table.length:Int)) <|
 ask ((0:Int)<=nth (nth a0.Ops x23.toNat).Table r9.toNat/\nth (nth a0.Ops x23.toNat).Table r9.toNat<(↑r2.length:Int)) <|
 ask ((x10.Table).length+([nth r2 (nth (nth a0.Ops x23.toNat).Table r9.toNat).toNat]).length<=LIM) <|
 ask (InI (x11+(1:Int))) <|
 some (.inl (x11+(1:Int),{ Arity:=x10.Arity,Table:=x10.Table++[nth r2 (nth (nth a0.Ops x23.toNat).Table r9.toNat).toNat] }))
 else
 some (.inr x10)
def Nf (a0:SAlgebra) (r1:List Int) (r2:List Int) (x23:Int) (x7:SAlgebra):(Int×SOp)->St:=λs=>[(11,A.val (Af s.1)),(10,A.val ((rP true (Ay true)) s.2)),(9,A.val ((rP true (Ay false)) (nth a0.Ops x23.toNat))),(23,A.val (Af (x23))),(22,A.val (Af ((↑a0.Ops.length:Int)))),(21,A.val ((slr false 2 (Ay false)) (a0.Ops))),(7,A.val ((rP true (Ag true)) (x7))),(6,A.val ((slr true 1 Af) (r2))),(5,A.val ((slr true 1 Af) (r1))),(4,A.val ((rP true (Ag true)) ({ Size:=(0:Int),Ops:=Aw SOp }))),(2,A.val ((rP true (Ag false)) (a0)))]
def Wd (a0:SAlgebra) (r1:List Int) (r2:List Int) (x23:Int) (x7:SAlgebra):SOp->Tgt
 | s=>((Ex.exit 2),[10,23,22,21,7,6,5,4,2],[(10,A.val ((rP true (Ay true)) s)),(23,A.val (Af (x23))),(22,A.val (Af ((↑a0.Ops.length:Int)))),(21,A.val ((slr false 2 (Ay false)) (a0.Ops))),(7,A.val ((rP true (Ag true)) (x7))),(6,A.val ((slr true 1 Af) (r2))),(5,A.val ((slr true 1 Af) (r1))),(4,A.val ((rP true (Ag true)) ({ Size:=(0:Int),Ops:=Aw SOp }))),(2,A.val ((rP true (Ag false)) (a0)))])
theorem Aga {a0:SAlgebra} {r1:List Int} {r2:List Int} {x23:Int} {x7:SAlgebra} (s:(Int×SOp)) (o:(Int×SOp) ⊕ SOp) (h:D1 a0 r1 r2 x23 x7 s=some o):vc Tryz.prog U6 (Cd [11,10,9,23,22,21,7,6,5,4,2] (Nf a0 r1 r2 x23 x7) (Wd a0 r1 r2 x23 x7) o) (Nf a0 r1 r2 x23 x7 s):=by
 obtain ⟨x11,x10⟩:=s;unfold D1 at h;try dsimp only at h
 refine Cells.lit rfl rfl<|Cells.lit rfl rfl<|CallQ.o Af (by rfl) h (λr h=>Abi h) (λr5 h=> ?_)
 refine Br.od h (λp6 h=> ?_) (λp6 h=> ?_)
 ·refine Cells.lit rfl rfl<|Cells.lit rfl rfl<|CallQ.o (slr true 1 Af) (by rfl) h (λr h=>Afd h) (λr7 h=> ?_)
  refine CallQ.rd (slr true 1 Af) (by first | rfl | simp only [V.fz,Ab,slr] | simp [Aa,V.fz,fzL,V.up,upL,Ab,Ac,Ad,slr]) (λ_=>by simp [V.noFz,Ba]) h (λr h=>Oq h) (λr8 h=> ?_);refine Cells.lit rfl rfl<|Cells.lit rfl rfl<|Cells.lit rfl rfl<|CallP.rd Af (by first | rfl | simp only [V.fz,Ab,slr] | simp [Aa,V.fz,fzL,V.up,upL,Ab,Ac,Ad,slr]) (λ_=>rfl) h (λr h=>Ada h) (λr9 h=> ?_)
  refine Len.map<|Ask.o h λp10 h=>Elem.o (by first | omega | (simp [Ap] at * <;> omega))<|Len.map<|Ask.o h λp11 h=>Cells.one (λ_=>⟨rfl,rfl⟩) (by first | omega | (simp [Ap] at * <;> omega))<|BslQ.o Af ([nth r2 (nth (nth a0.Ops x23.toNat).Table r9.toNat).toNat]) (by exact λ_=>⟨rfl,rfl⟩) (by first | rfl | (simp only [Aa,V.fz,fzL,V.up,upL,Ab,Ac,Ad,slr,List.cons_append,List.nil_append];done) | simp [Aa,V.fz,fzL,V.up,upL,Ab,Ac,Ad,slr])<|NoOwn.o (λ_=>rfl)<|Kid.lit rfl rfl<|Kid.lit rfl rfl<|SetKids.lit rfl<|AppQ.o (m:=1) Af (by exact λ_=>⟨rfl,rfl⟩) (x10.Table) ([nth r2 (nth (nth a0.Ops x23.toNat).Table r9.toNat).toNat]) (by rfl) (by rfl) h λh=>SetKids.lit rfl<|Ask.o h λp12 h=> ?_
  cases h;exact ⟨rfl,rfl⟩
 cases h;exact ⟨rfl,rfl⟩
noncomputable def D0 (a0:SAlgebra) (r1:List Int) (r2:List Int):(Int×SAlgebra)->Option ((Int×SAlgebra) ⊕ SAlgebra):=λ(x23,x7)=>
 if x23<(↑a0.Ops.length:Int) then
 ask ((0:Int)<=x23/\x23<(↑a0.Ops.length:Int)) <|
 (Ak (D1 a0 r1 r2 x23 x7) ((0:Int),{ Arity:=(nth a0.Ops x23.toNat).Arity,Table:=Aw Int })).bind λq13_10=>
 ask ((x7.Ops).length+([q13_10]).length<=LIM) <|
 ask (InI (x23+(1:Int))) <|
 some (.inl (x23+(1:Int),{ Size:=x7.Size,Ops:=x7.Ops++[q13_10] }))
 else
 some (.inr x7)
def Nr (a0:SAlgebra) (r1:List Int) (r2:List Int):(Int×SAlgebra)->St:=λs=>[(23,A.val (Af s.1)),(22,A.val (Af ((↑a0.Ops.length:Int)))),(21,A.val ((slr false 2 (Ay false)) (a0.Ops))),(7,A.val ((rP true (Ag true)) s.2)),(6,A.val ((slr true 1 Af) (r2))),(5,A.val ((slr true 1 Af) (r1))),(4,A.val ((rP true (Ag true)) ({ Size:=(0:Int),Ops:=Aw SOp }))),(2,A.val ((rP true (Ag false)) (a0)))]
def Vq (_a0:SAlgebra) (_r1:List Int) (_r2:List Int):SAlgebra->Tgt
 | s=>((Ex.exit 0),[7,4],[(7,A.val ((rP true (Ag true)) s)),(4,A.val ((rP true (Ag true)) ({ Size:=(0:Int),Ops:=Aw SOp })))])
theorem Ahs {a0:SAlgebra} {r1:List Int} {r2:List Int} (s:(Int×SAlgebra)) (o:(Int×SAlgebra) ⊕ SAlgebra) (h:D0 a0 r1 r2 s=some o):vc Tryz.prog Vb (Cd [23,22,21,7,6,5,4,2] (Nr a0 r1 r2) (Vq a0 r1 r2) o) (Nr a0 r1 r2 s):=by
 obtain ⟨x23,x7⟩:=s;unfold D0 at h;try dsimp only at h
 refine Br.od h (λp3 h=> ?_) (λp3 h=> ?_)
 ·refine Len.map<|Ask.o h λp4 h=>Elem.o (by first | omega | (simp [Ap] at * <;> omega))<|SetKids.lit rfl<|Cells.lit rfl rfl<|SetKids.lit rfl<|LoopQ.o [11,10,9,23,22,21,7,6,5,4,2] (Nf a0 r1 r2 x23 x7) (Wd a0 r1 r2 x23 x7) h (λs o h=>Aga s o h) (by rfl) (λ_=>rfl) ?_
  rintro q13_10 h;try dsimp only at h
  refine Cells.lit rfl rfl<|Cells.lit rfl rfl<|BslQ.o (Ay true) [q13_10] (by exact λ_=>⟨rfl,rfl⟩) (by first | rfl | (simp only [Aa,V.fz,fzL,V.up,upL,Ab,Ac,Ad,slr,List.cons_append,List.nil_append];done) | simp [Aa,V.fz,fzL,V.up,upL,Ab,Ac,Ad,slr])<|NoOwn.own rfl<|Kid.lit rfl rfl<|Kid.lit rfl rfl<|SetKids.lit rfl<|AppQ.o (m:=2) (Ay true) (by exact λ_=>⟨rfl,rfl⟩) (x7.Ops) ([q13_10]) (by rfl) (by rfl) h λh=>SetKids.lit rfl<|Ask.o h λp14 h=> ?_
  cases h;exact ⟨rfl,rfl⟩
 cases h;exact ⟨rfl,rfl⟩
noncomputable def Js (a0:SAlgebra) (p0:(List Int)):Option SAlgebra:=
 (K6 (p0)).bind λr1=>
 (Fy (p0)).bind λr2=>
 (Ak (D0 a0 r1 r2) ((0:Int),{ Size:=(↑r1.length:Int),Ops:=Aw SOp })).bind λq15_7=>
 some q15_7
theorem Anj {a0:SAlgebra} {p0:(List Int)} {v:SAlgebra} (h:Js a0 p0=some v):Ret Tryz.prog Tq [(Ag false) a0,(slr false 1 Af) p0] ((Ag true) v):=by
 refine A4 Anl (Nat.le_of_ble_eq_true rfl) ?_;unfold Js at h;refine CallQ.o (slr true 1 Af) (by rfl) h (λr h=>Aqe h) (λr1 h=> ?_);refine CallQ.o (slr true 1 Af) (by rfl) h (λr h=>Xh h) (λr2 h=> ?_);refine Len.map<|SetKids.lit rfl<|Cells.lit rfl rfl<|Len.map<|LoopQ.o [23,22,21,7,6,5,4,2] (Nr a0 r1 r2) (Vq a0 r1 r2) h (λs o h=>Ahs s o h) (by rfl) (λ_=>rfl) ?_
 rintro q15_7 h;try dsimp only at h
 refine Cells.lit rfl rfl<|SetKids.lit rfl ?_
 cases h;exact (by rfl)
noncomputable def Kf (f0:(List Int)) (a1:(Unit)) (a2:(Option (List Int))):Option (Bool×(Option (List Int))):=
 match a1 with
 | _a1=>(match a2 with
 | none=>((Mm (f0)).bind λr1=>
 if (r1)=true then
 (Fh (f0)).bind λr3=>
 some (false,some r3)
 else
 some (true,none))
 | some a2=>((Mm (f0)).bind λr4=>
 if (r4)=true then
 (Fh (f0)).bind λr6=>
 some (false,some r6)
 else
 some (true,some a2)))
theorem Aiz {f0:(List Int)} {a1:(Unit)} {a2:(Option (List Int))} {v:(Bool×(Option (List Int)))} (h:Kf f0 a1 a2=some v):J7 Tryz.prog Hm [(slr false 1 Af) f0,(rP false Ep) a1,(rP true (rOw 1 Af)) a2] (V.bool v.1) 2 ((rP true (rOw 1 Af)) v.2):=by
 refine Ij Aj9 (Nat.le_of_ble_eq_true rfl) ?_;unfold Kf at h;rcases a1 with a1
 try dsimp only at h
 rcases a2 with _ | a2
 ·try dsimp only at h
  refine CloV.f<|CloQ.o V.bool (by rfl) (λ_=>by first | rfl | simp [Db,V.noFz,Bo,Ba,NoFz.eq]) h (λr h=>Afp h) (λr1 h=> ?_)
  refine Br.ob h (λp2 h=> ?_) (λp2 h=> ?_)
  ·refine CallQ.o (slr true 1 Af) (by rfl) h (λr h=>Oi h) (λr3 h=> ?_);refine SetKids.lit rfl ?_;cases h;exact ⟨(by rfl),(by rfl)⟩
  cases h;exact ⟨(by rfl),(by rfl)⟩
 try dsimp only at h
 refine CloV.f<|CloQ.o V.bool (by rfl) (λ_=>by first | rfl | simp [Db,V.noFz,Bo,Ba,NoFz.eq]) h (λr h=>Afp h) (λr4 h=> ?_)
 refine Br.ob h (λp5 h=> ?_) (λp5 h=> ?_)
 ·refine CallQ.o (slr true 1 Af) (by rfl) h (λr h=>Oi h) (λr6 h=> ?_);refine SetKids.lit rfl ?_;cases h;exact ⟨(by rfl),(by rfl)⟩
 cases h;exact ⟨(by rfl),(by rfl)⟩
noncomputable def K0 (k0:Int):Option SAlgebra:=
 if k0=(0:Int) then
 (Bh ({ data := #[(48:UInt8),(48:UInt8),(48:UInt8),(49:UInt8)] })).bind λr2=>
 some ({ Size:=(2:Int),Ops:=[r2] })
 else
 if k0=(1:Int) then
 (Bh ({ data := #[(48:UInt8),(48:UInt8),(48:UInt8),(49:UInt8)] })).bind λr4=>
 (Bh ({ data := #[(48:UInt8),(49:UInt8),(49:UInt8),(49:UInt8)] })).bind λr5=>
 some ({ Size:=(2:Int),Ops:=[r4,r5] })
 else
 if k0=(2:Int) then
 (Bh ({ data := #[(48:UInt8),(48:UInt8),(48:UInt8),(49:UInt8)] })).bind λr7=>
 (Bh ({ data := #[(48:UInt8),(49:UInt8),(49:UInt8),(49:UInt8)] })).bind λr8=>
 some ({ Size:=(2:Int),Ops:=[r7,r8,{ Arity:=(1:Int),Table:=[(1:Int),(0:Int)] }] })
 else
 if k0=(3:Int) then
 (Hj ((2:Int))).bind λr10=>
 some ({ Size:=(2:Int),Ops:=[r10] })
 else
 if k0=(4:Int) then
 (Bh ({ data := #[(48:UInt8),(49:UInt8),(50:UInt8),(49:UInt8),(50:UInt8),(48:UInt8),(50:UInt8),(48:UInt8),(49:UInt8)] })).bind λr12=>
 some ({ Size:=(3:Int),Ops:=[r12] })
 else
 if k0=(5:Int) then
 (Bh ({ data := #[(48:UInt8),(49:UInt8),(48:UInt8),(49:UInt8),(49:UInt8),(50:UInt8),(48:UInt8),(50:UInt8),(50:UInt8)] })).bind λr14=>
 some ({ Size:=(3:Int),Ops:=[r14] })
 else
 if k0=(6:Int) then
 (Bh ({ data := #[(48:UInt8),(49:UInt8),(50:UInt8),(51:UInt8),(49:UInt8),(48:UInt8),(51:UInt8),(50:UInt8),(50:UInt8),(51:UInt8),(48:UInt8),(49:UInt8),(51:UInt8),(50:UInt8),(49:UInt8),(48:UInt8)] })).bind λr16=>
 some ({ Size:=(4:Int),Ops:=[r16] })
 else
 if k0=(7:Int) then
 (Bh ({ data := #[(48:UInt8),(48:UInt8),(48:UInt8),(48:UInt8),(49:UInt8),(49:UInt8),(48:UInt8),(49:UInt8),(50:UInt8)] })).bind λr18=>
 (Bh ({ data := #[(48:UInt8),(49:UInt8),(50:UInt8),(49:UInt8),(49:UInt8),(50:UInt8),(50:UInt8),(50:UInt8),(50:UInt8)] })).bind λr19=>
 some ({ Size:=(3:Int),Ops:=[r18,r19] })
 else
 if k0=(8:Int) then
 some ({ Size:=(4:Int),Ops:=[{ Arity:=(1:Int),Table:=[(1:Int),(2:Int),(3:Int),(0:Int)] }] })
 else
 if k0=(9:Int) then
 some ({ Size:=(2:Int),Ops:=[{ Arity:=(3:Int),Table:=[(0:Int),(0:Int),(0:Int),(1:Int),(0:Int),(1:Int),(1:Int),(1:Int)] }] })
 else
 if k0=(10:Int) then
 (Bh ({ data := #[(48:UInt8),(48:UInt8),(48:UInt8),(49:UInt8),(49:UInt8),(49:UInt8),(50:UInt8),(50:UInt8),(50:UInt8)] })).bind λr23=>
 some ({ Size:=(3:Int),Ops:=[r23] })
 else
 if k0=(11:Int) then
 (Bh ({ data := #[(48:UInt8),(48:UInt8),(48:UInt8),(48:UInt8),(48:UInt8),(48:UInt8),(49:UInt8),(48:UInt8),(48:UInt8),(49:UInt8),(48:UInt8),(48:UInt8),(50:UInt8),(48:UInt8),(50:UInt8),(48:UInt8),(48:UInt8),(48:UInt8),(51:UInt8),(51:UInt8),(48:UInt8),(49:UInt8),(50:UInt8),(51:UInt8),(52:UInt8)] })).bind λr25=>
 (Bh ({ data := #[(48:UInt8),(49:UInt8),(50:UInt8),(51:UInt8),(52:UInt8),(49:UInt8),(49:UInt8),(52:UInt8),(52:UInt8),(52:UInt8),(50:UInt8),(52:UInt8),(50:UInt8),(52:UInt8),(52:UInt8),(51:UInt8),(52:UInt8),(52:UInt8),(51:UInt8),(52:UInt8),(52:UInt8),(52:UInt8),(52:UInt8),(52:UInt8),(52:UInt8)] })).bind λr26=>
 some ({ Size:=(5:Int),Ops:=[r25,r26] })
 else
 if k0=(12:Int) then
 (Bh ({ data := #[(48:UInt8),(49:UInt8),(50:UInt8),(51:UInt8),(49:UInt8),(50:UInt8),(51:UInt8),(48:UInt8),(50:UInt8),(51:UInt8),(48:UInt8),(49:UInt8),(51:UInt8),(48:UInt8),(49:UInt8),(50:UInt8)] })).bind λr28=>
 some ({ Size:=(4:Int),Ops:=[r28] })
 else
 if k0=(13:Int) then
 some ({ Size:=(3:Int),Ops:=[{ Arity:=(1:Int),Table:=[(0:Int),(0:Int),(1:Int)] },{ Arity:=(0:Int),Table:=[(2:Int)] }] })
 else
 if k0=(14:Int) then
 (Bh ({ data := #[(48:UInt8)] })).bind λr31=>
 some ({ Size:=(1:Int),Ops:=[r31] })
 else
 if k0=(15:Int) then
 (Hj ((3:Int))).bind λr33=>
 some ({ Size:=(3:Int),Ops:=[r33] })
 else
 some ({ Size:=(2:Int),Ops:=Aw SOp })
theorem Aro {k0:Int} {v:SAlgebra} (h:K0 k0=some v):Ret Tryz.prog Vw [Af k0] ((Ag true) v):=by
 refine A4 Apw (Nat.le_of_ble_eq_true rfl) ?_;unfold K0 at h;refine Br.oe h (λp1 h=> ?_) (λp1 h=> ?_)
 ·refine CallQ.o (Ay true) (by rfl) h (λr h=>Bs h) (λr2 h=> ?_);refine BslQ.o (Ay true) [r2] (by exact λ_=>⟨rfl,rfl⟩) (by first | rfl | (simp only [Aa,V.fz,fzL,V.up,upL,Ab,Ac,Ad,slr,List.cons_append,List.nil_append];done) | simp [Aa,V.fz,fzL,V.up,upL,Ab,Ac,Ad,slr])<|SetKids.lit rfl ?_
  cases h;exact (by rfl)
 refine Br.oe h (λp3 h=> ?_) (λp3 h=> ?_)
 ·refine CallQ.o (Ay true) (by rfl) h (λr h=>Bs h) (λr4 h=> ?_);refine CallQ.o (Ay true) (by rfl) h (λr h=>Bs h) (λr5 h=> ?_);refine BslQ.o (Ay true) ([r4,r5]) (by exact λ_=>⟨rfl,rfl⟩) (by first | rfl | (simp only [Aa,V.fz,fzL,V.up,upL,Ab,Ac,Ad,slr,List.cons_append,List.nil_append];done) | simp [Aa,V.fz,fzL,V.up,upL,Ab,Ac,Ad,slr])<|SetKids.lit rfl ?_
  cases h;exact (by rfl)
 refine Br.oe h (λp6 h=> ?_) (λp6 h=> ?_)
 ·refine CallQ.o (Ay true) (by rfl) h (λr h=>Bs h) (λr7 h=> ?_);refine CallQ.o (Ay true) (by rfl) h (λr h=>Bs h) (λr8 h=> ?_);refine BslQ.o Af ([(1:Int),(0:Int)]) (by exact λ_=>⟨rfl,rfl⟩) (by first | rfl | (simp only [Aa,V.fz,fzL,V.up,upL,Ab,Ac,Ad,slr,List.cons_append,List.nil_append];done) | simp [Aa,V.fz,fzL,V.up,upL,Ab,Ac,Ad,slr])<|BslQ.o (Ay true) ([r7,r8,{ Arity:=(1:Int),Table:=[(1:Int),(0:Int)] }]) (by exact λ_=>⟨rfl,rfl⟩) (by first | rfl | (simp only [Aa,V.fz,fzL,V.up,upL,Ab,Ac,Ad,slr,List.cons_append,List.nil_append];done) | simp [Aa,V.fz,fzL,V.up,upL,Ab,Ac,Ad,slr])<|SetKids.lit rfl ?_
  cases h;exact (by rfl)
 refine Br.oe h (λp9 h=> ?_) (λp9 h=> ?_)
 ·refine CallQ.o (Ay true) (by rfl) h (λr h=>Abr h) (λr10 h=> ?_);refine BslQ.o (Ay true) [r10] (by exact λ_=>⟨rfl,rfl⟩) (by first | rfl | (simp only [Aa,V.fz,fzL,V.up,upL,Ab,Ac,Ad,slr,List.cons_append,List.nil_append];done) | simp [Aa,V.fz,fzL,V.up,upL,Ab,Ac,Ad,slr])<|SetKids.lit rfl ?_
  cases h;exact (by rfl)
 refine Br.oe h (λp11 h=> ?_) (λp11 h=> ?_)
 ·refine CallQ.o (Ay true) (by rfl) h (λr h=>Bs h) (λr12 h=> ?_);refine BslQ.o (Ay true) [r12] (by exact λ_=>⟨rfl,rfl⟩) (by first | rfl | (simp only [Aa,V.fz,fzL,V.up,upL,Ab,Ac,Ad,slr,List.cons_append,List.nil_append];done) | simp [Aa,V.fz,fzL,V.up,upL,Ab,Ac,Ad,slr])<|SetKids.lit rfl ?_
  cases h;exact (by rfl)
 refine Br.oe h (λp13 h=> ?_) (λp13 h=> ?_)
 ·refine CallQ.o (Ay true) (by rfl) h (λr h=>Bs h) (λr14 h=> ?_);refine BslQ.o (Ay true) [r14] (by exact λ_=>⟨rfl,rfl⟩) (by first | rfl | (simp only [Aa,V.fz,fzL,V.up,upL,Ab,Ac,Ad,slr,List.cons_append,List.nil_append];done) | simp [Aa,V.fz,fzL,V.up,upL,Ab,Ac,Ad,slr])<|SetKids.lit rfl ?_
  cases h;exact (by rfl)
 refine Br.oe h (λp15 h=> ?_) (λp15 h=> ?_)
 ·refine CallQ.o (Ay true) (by rfl) h (λr h=>Bs h) (λr16 h=> ?_);refine BslQ.o (Ay true) [r16] (by exact λ_=>⟨rfl,rfl⟩) (by first | rfl | (simp only [Aa,V.fz,fzL,V.up,upL,Ab,Ac,Ad,slr,List.cons_append,List.nil_append];done) | simp [Aa,V.fz,fzL,V.up,upL,Ab,Ac,Ad,slr])<|SetKids.lit rfl ?_
  cases h;exact (by rfl)
 refine Br.oe h (λp17 h=> ?_) (λp17 h=> ?_)
 ·refine CallQ.o (Ay true) (by rfl) h (λr h=>Bs h) (λr18 h=> ?_);refine CallQ.o (Ay true) (by rfl) h (λr h=>Bs h) (λr19 h=> ?_);refine BslQ.o (Ay true) ([r18,r19]) (by exact λ_=>⟨rfl,rfl⟩) (by first | rfl | (simp only [Aa,V.fz,fzL,V.up,upL,Ab,Ac,Ad,slr,List.cons_append,List.nil_append];done) | simp [Aa,V.fz,fzL,V.up,upL,Ab,Ac,Ad,slr])<|SetKids.lit rfl ?_
  cases h;exact (by rfl)
 refine Br.oe h (λp20 h=> ?_) (λp20 h=> ?_)
 ·refine BslQ.o Af ([(1:Int),(2:Int),(3:Int),(0:Int)]) (by exact λ_=>⟨rfl,rfl⟩) (by first | rfl | (simp only [Aa,V.fz,fzL,V.up,upL,Ab,Ac,Ad,slr,List.cons_append,List.nil_append];done) | simp [Aa,V.fz,fzL,V.up,upL,Ab,Ac,Ad,slr])<|BslQ.o (Ay true) ([{ Arity:=(1:Int),Table:=[(1:Int),(2:Int),(3:Int),(0:Int)] }]) (by exact λ_=>⟨rfl,rfl⟩) (by first | rfl | (simp only [Aa,V.fz,fzL,V.up,upL,Ab,Ac,Ad,slr,List.cons_append,List.nil_append];done) | simp [Aa,V.fz,fzL,V.up,upL,Ab,Ac,Ad,slr])<|SetKids.lit rfl ?_
  cases h;exact (by rfl)
 refine Br.oe h (λp21 h=> ?_) (λp21 h=> ?_)
 ·refine BslQ.o Af ([(0:Int),(0:Int),(0:Int),(1:Int),(0:Int),(1:Int),(1:Int),(1:Int)]) (by exact λ_=>⟨rfl,rfl⟩) (by first | rfl | (simp only [Aa,V.fz,fzL,V.up,upL,Ab,Ac,Ad,slr,List.cons_append,List.nil_append];done) | simp [Aa,V.fz,fzL,V.up,upL,Ab,Ac,Ad,slr])<|BslQ.o (Ay true) ([{ Arity:=(3:Int),Table:=[(0:Int),(0:Int),(0:Int),(1:Int),(0:Int),(1:Int),(1:Int),(1:Int)] }]) (by exact λ_=>⟨rfl,rfl⟩) (by first | rfl | (simp only [Aa,V.fz,fzL,V.up,upL,Ab,Ac,Ad,slr,List.cons_append,List.nil_append];done) | simp [Aa,V.fz,fzL,V.up,upL,Ab,Ac,Ad,slr])<|SetKids.lit rfl ?_
  cases h;exact (by rfl)
 refine Br.oe h (λp22 h=> ?_) (λp22 h=> ?_)
 ·refine CallQ.o (Ay true) (by rfl) h (λr h=>Bs h) (λr23 h=> ?_);refine BslQ.o (Ay true) [r23] (by exact λ_=>⟨rfl,rfl⟩) (by first | rfl | (simp only [Aa,V.fz,fzL,V.up,upL,Ab,Ac,Ad,slr,List.cons_append,List.nil_append];done) | simp [Aa,V.fz,fzL,V.up,upL,Ab,Ac,Ad,slr])<|SetKids.lit rfl ?_
  cases h;exact (by rfl)
 refine Br.oe h (λp24 h=> ?_) (λp24 h=> ?_)
 ·refine CallQ.o (Ay true) (by rfl) h (λr h=>Bs h) (λr25 h=> ?_);refine CallQ.o (Ay true) (by rfl) h (λr h=>Bs h) (λr26 h=> ?_);refine BslQ.o (Ay true) ([r25,r26]) (by exact λ_=>⟨rfl,rfl⟩) (by first | rfl | (simp only [Aa,V.fz,fzL,V.up,upL,Ab,Ac,Ad,slr,List.cons_append,List.nil_append];done) | simp [Aa,V.fz,fzL,V.up,upL,Ab,Ac,Ad,slr])<|SetKids.lit rfl ?_
  cases h;exact (by rfl)
 refine Br.oe h (λp27 h=> ?_) (λp27 h=> ?_)
 ·refine CallQ.o (Ay true) (by rfl) h (λr h=>Bs h) (λr28 h=> ?_);refine BslQ.o (Ay true) [r28] (by exact λ_=>⟨rfl,rfl⟩) (by first | rfl | (simp only [Aa,V.fz,fzL,V.up,upL,Ab,Ac,Ad,slr,List.cons_append,List.nil_append];done) | simp [Aa,V.fz,fzL,V.up,upL,Ab,Ac,Ad,slr])<|SetKids.lit rfl ?_
  cases h;exact (by rfl)
 refine Br.oe h (λp29 h=> ?_) (λp29 h=> ?_)
 ·refine BslQ.o Af ([(0:Int),(0:Int),(1:Int)]) (by exact λ_=>⟨rfl,rfl⟩) (by first | rfl | (simp only [Aa,V.fz,fzL,V.up,upL,Ab,Ac,Ad,slr,List.cons_append,List.nil_append];done) | simp [Aa,V.fz,fzL,V.up,upL,Ab,Ac,Ad,slr])<|BslQ.o Af ([(2:Int)]) (by exact λ_=>⟨rfl,rfl⟩) (by first | rfl | (simp only [Aa,V.fz,fzL,V.up,upL,Ab,Ac,Ad,slr,List.cons_append,List.nil_append];done) | simp [Aa,V.fz,fzL,V.up,upL,Ab,Ac,Ad,slr])<|BslQ.o (Ay true) ([{ Arity:=(1:Int),Table:=[(0:Int),(0:Int),(1:Int)] },{ Arity:=(0:Int),Table:=[(2:Int)] }]) (by exact λ_=>⟨rfl,rfl⟩) (by first | rfl | (simp only [Aa,V.fz,fzL,V.up,upL,Ab,Ac,Ad,slr,List.cons_append,List.nil_append];done) | simp [Aa,V.fz,fzL,V.up,upL,Ab,Ac,Ad,slr])<|SetKids.lit rfl ?_
  cases h;exact (by rfl)
 refine Br.oe h (λp30 h=> ?_) (λp30 h=> ?_)
 ·refine CallQ.o (Ay true) (by rfl) h (λr h=>Bs h) (λr31 h=> ?_);refine BslQ.o (Ay true) [r31] (by exact λ_=>⟨rfl,rfl⟩) (by first | rfl | (simp only [Aa,V.fz,fzL,V.up,upL,Ab,Ac,Ad,slr,List.cons_append,List.nil_append];done) | simp [Aa,V.fz,fzL,V.up,upL,Ab,Ac,Ad,slr])<|SetKids.lit rfl ?_
  cases h;exact (by rfl)
 refine Br.oe h (λp32 h=> ?_) (λp32 h=> ?_)
 ·refine CallQ.o (Ay true) (by rfl) h (λr h=>Abr h) (λr33 h=> ?_);refine BslQ.o (Ay true) [r33] (by exact λ_=>⟨rfl,rfl⟩) (by first | rfl | (simp only [Aa,V.fz,fzL,V.up,upL,Ab,Ac,Ad,slr,List.cons_append,List.nil_append];done) | simp [Aa,V.fz,fzL,V.up,upL,Ab,Ac,Ad,slr])<|SetKids.lit rfl ?_
  cases h;exact (by rfl)
 refine SetKids.lit rfl ?_;cases h;exact (by rfl)
noncomputable def A9 (c0:Sl1Cur) (n0:Int):Option (Int×Sl1Cur):=
 if n0<=(1:Int) then
 some ((0:Int),c0)
 else
 (F1 (c0)).bind λ(r2,u3)=>
 if n0>(200:Int) then
 ask (InI (r2*(256:Int))) <|
 (F1 (u3)).bind λ(r6,u7)=>
 ask (InI (r2*(256:Int)+r6)) <|
 ask (n0≠(0:Int)) <|
 some ((r2*(256:Int)+r6).tmod n0,u7)
 else
 ask (n0≠(0:Int)) <|
 some (r2.tmod n0,u3)
theorem Bd {c0:Sl1Cur} {n0:Int} {v:(Int×Sl1Cur)} (h:A9 c0 n0=some v):J7 Tryz.prog A8 [(rP true (Al false)) c0,Af n0] (Af v.1) 0 ((rP true (Al false)) v.2):=by
 refine Ij Ah1 (Nat.le_of_ble_eq_true rfl) ?_;unfold A9 at h;refine Br.od h (λp1 h=> ?_) (λp1 h=> ?_)
 ·cases h;exact ⟨(by rfl),(by rfl)⟩
 refine CallQ.io Af (rP true (Al false)) (by rfl) rfl (λ_=>rfl) (λ_=>⟨rfl,rfl⟩) rfl h (λr h=>W9 h) (λr2 u3 h=> ?_);refine Br.od h (λp4 h=> ?_) (λp4 h=> ?_)
 ·refine Ask.o h λp5 h=>CallQ.io Af (rP true (Al false)) (by rfl) rfl (λ_=>rfl) (λ_=>⟨rfl,rfl⟩) rfl h (λr h=>W9 h) (λr6 u7 h=> ?_)
  refine Ask.o h λp8 h=>Ask.o h λp9 h=> ?_
  cases h;exact ⟨(by rfl),(by rfl)⟩
 refine Ask.o h λp10 h=> ?_
 cases h;exact ⟨(by rfl),(by rfl)⟩
end Go.Proofs.YtmkgjnphianalaaGreat.Ax
