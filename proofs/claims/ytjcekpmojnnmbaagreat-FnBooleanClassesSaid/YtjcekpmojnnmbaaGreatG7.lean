/-
 What the functions compute, as functions on plain data, and that the program does compute it; written by program.
-/
import Derived.Test.YtjcekpmojnnmbaaGreatCode
import Derived.Test.YtjcekpmojnnmbaaGreatG2
import Derived.Test.YtjcekpmojnnmbaaGreatG3
import Derived.Test.YtjcekpmojnnmbaaGreatG4
import Derived.Test.YtjcekpmojnnmbaaGreatG5
namespace Go.Proofs.YtjcekpmojnnmbaaGreat.Ax
open Go
set_option maxRecDepth 100000
set_option maxHeartbeats 4000000
noncomputable def C3 (line0:List (List Int)) (numbers0:List Int):(Int×(List (List Int)))→Option ((Int×(List (List Int))) ⊕ (List (List Int))):=fun (x6,x5)=>
 if x6<(↑numbers0.length:Int) then
 ask ((0:Int)≤x6∧x6<(↑numbers0.length:Int)) <|
 ask ((0:Int)≤nth numbers0 x6.toNat∧nth numbers0 x6.toNat<(↑line0.length:Int)) <|
 ask ((x5).length+([nth line0 (nth numbers0 x6.toNat).toNat]).length≤LIM) <|
 ask (InI (x6+(1:Int))) <|
 some (.inl (x6+(1:Int),x5++[nth line0 (nth numbers0 x6.toNat).toNat]))
 else
 some (.inr x5)
def Jy (line0:List (List Int)) (numbers0:List Int):(Int×(List (List Int)))→St:=fun s=>[(6,A.val (Ae s.1)),(5,A.val ((slr true 1 (slr false 1 Ae)) s.2)),(0,A.ref 25 []),(25,A.val ((slr true 1 (slr false 1 Ae)) (line0))),(1,A.val ((slr false 1 Ae) (numbers0)))]
def Ph (line0:List (List Int)) (_numbers0:List Int):(List (List Int))→Tgt
 | s=>((Ex.exit 0),[5,25],[(5,A.val ((slr true 1 (slr false 1 Ae)) s)),(25,A.val ((slr true 1 (slr false 1 Ae)) (line0)))])
theorem Z1 {line0:List (List Int)} {numbers0:List Int} (s:(Int×(List (List Int)))) (o:(Int×(List (List Int))) ⊕ (List (List Int))) (h:C3 line0 numbers0 s=some o):vc Tryz.prog K1 (Dc [6,5,0,25,1] (Jy line0 numbers0) (Ph line0 numbers0) o) (Jy line0 numbers0 s):=by
 obtain ⟨x6,x5⟩:=s
 unfold C3 at h
 try dsimp only at h
 conv=>whnf
 refine Len.map ?_
 conv=>whnf
 refine Br.od h (fun p1 h=> ?_) (fun p1 h=> ?_)
 ·conv=>whnf
  refine Len.map ?_
  conv=>whnf
  refine Ask.o h fun p2 h=> ?_
  conv=>whnf
  refine Elem.o (by first | omega | (simp [Be] at * <;> omega)) ?_
  conv=>whnf
  refine Len.map ?_
  conv=>whnf
  refine Ask.o h fun p3 h=> ?_
  conv=>whnf
  refine Cells.one (fun _=>⟨rfl,rfl⟩) (by first | omega | (simp [Be] at * <;> omega)) ?_
  conv=>whnf
  refine BslQ.o (slr false 1 Ae) ([nth line0 (nth numbers0 x6.toNat).toNat]) (by exact fun _=>⟨rfl,rfl⟩) (by first | rfl | (simp only [Aa,V.fz,fzL,V.up,upL,Ab,Ac,Ad,slr,List.cons_append,List.nil_append];done) | simp [Aa,V.fz,fzL,V.up,upL,Ab,Ac,Ad,slr]) ?_
  conv=>whnf
  refine NoOwn.o (fun _=>rfl) ?_
  conv=>whnf
  refine AppQ.o (m:=1) (slr false 1 Ae) (by exact fun _=>⟨rfl,rfl⟩) (x5) ([nth line0 (nth numbers0 x6.toNat).toNat]) (by first | rfl | simp only [Aa,V.fz,fzL,V.up,upL,Ab,Ac,Ad,slr,List.cons_append,List.nil_append] | simp [Aa,V.fz,fzL,V.up,upL,Ab,Ac,Ad,slr]) (by first | rfl | simp only [Aa,V.fz,fzL,V.up,upL,Ab,Ac,Ad,slr,List.cons_append,List.nil_append] | simp [Aa,V.fz,fzL,V.up,upL,Ab,Ac,Ad,slr]) h fun h=> ?_
  conv=>whnf
  refine Ask.o h fun p4 h=> ?_
  conv=>whnf
  cases h;exact ⟨rfl,rfl⟩
 conv=>whnf
 cases h;exact ⟨rfl,rfl⟩
noncomputable def G2 (line0:(List (List Int))) (numbers0:(List Int)):Option ((List (List Int))×(List (List Int))):=
 (Ao (C3 line0 numbers0) ((0:Int),Au (List Int))).bind fun q5_5=>
 some (q5_5,line0)
theorem Afa {line0:(List (List Int))} {numbers0:(List Int)} {v:((List (List Int))×(List (List Int)))} (h:G2 line0 numbers0=some v):Rc Tryz.prog Ui [(slr true 1 (slr false 1 Ae)) line0,(slr false 1 Ae) numbers0] ((slr false 1 (slr false 1 Ae)) v.1) 0 ((slr true 1 (slr false 1 Ae)) v.2):=by
 refine Afc Afk (Nat.le_of_ble_eq_true rfl) ?_
 unfold G2 at h
 conv=>whnf
 refine BslQ.o (slr true 1 Ae) (Au (List Int)) (by exact fun _=>⟨rfl,rfl⟩) (by first | rfl | (simp only [Aa,V.fz,fzL,V.up,upL,Ab,Ac,Ad,slr,List.cons_append,List.nil_append];done) | simp [Aa,V.fz,fzL,V.up,upL,Ab,Ac,Ad,slr]) ?_
 conv=>whnf
 refine LoopQ.o [6,5,0,25,1] (Jy line0 numbers0) (Ph line0 numbers0) h (fun s o h=>Z1 s o h) (by first | rfl | simp [restrict,look,Aa,V.fz,fzL,V.up,upL,Ab,Ac,Ad,slr]) (fun _=>rfl) ?_
 rintro q5_5 h
 try dsimp only at h
 conv=>whnf
 cases h;exact ⟨(by first | rfl | simp only [Ah,Ac,slr] | simp [Ah,Aa,V.fz,fzL,V.up,upL,Ab,Ac,Ad,slr]),(by first | rfl | simp only [Ah,Aa,V.fz,fzL,V.up,upL,Ab,Ac,Ad,slr] | simp [Ah,Aa,V.fz,fzL,V.up,upL,Ab,Ac,Ad,slr])⟩
noncomputable def Dw (_a0:SAlgebra) (_k0:Int) (gens0:List (List Int)) (_r1:Int):(Int×(List (List Int)))→Option ((Int×(List (List Int))) ⊕ (List (List Int))):=fun (x12,x11)=>
 if x12<(↑gens0.length:Int) then
 ask ((0:Int)≤x12∧x12<(↑gens0.length:Int)) <|
 (Jn (nth gens0 x12.toNat)).bind fun r4=>
 ask ((x11).length+([r4]).length≤LIM) <|
 ask (InI (x12+(1:Int))) <|
 some (.inl (x12+(1:Int),x11++[r4]))
 else
 some (.inr x11)
def L7 (a0:SAlgebra) (k0:Int) (gens0:List (List Int)) (r1:Int):(Int×(List (List Int)))→St:=fun s=>[(12,A.val (Ae s.1)),(11,A.val ((slr true 1 (slr true 1 Ae)) s.2)),(10,A.val (Ae (r1))),(9,A.val ((slr true 1 (slr true 1 Ae)) (Au (List Int)))),(8,A.val ((slr true 1 (slr true 1 Ae)) (Au (List Int)))),(3,A.val ((rP true (A8 false)) (a0))),(1,A.val (Ae (k0))),(2,A.val ((slr false 1 (slr false 1 Ae)) (gens0)))]
def R3 (a0:SAlgebra) (k0:Int) (_gens0:List (List Int)) (r1:Int):(List (List Int))→Tgt
 | s=>((Ex.exit 0),[11,10,9,8,3,1],[(11,A.val ((slr true 1 (slr true 1 Ae)) s)),(10,A.val (Ae (r1))),(9,A.val ((slr true 1 (slr true 1 Ae)) (Au (List Int)))),(8,A.val ((slr true 1 (slr true 1 Ae)) (Au (List Int)))),(3,A.val ((rP true (A8 false)) (a0))),(1,A.val (Ae (k0)))])
theorem Aco {a0:SAlgebra} {k0:Int} {gens0:List (List Int)} {r1:Int} (s:(Int×(List (List Int)))) (o:(Int×(List (List Int))) ⊕ (List (List Int))) (h:Dw a0 k0 gens0 r1 s=some o):vc Tryz.prog Sl (Dc [12,11,10,9,8,3,1,2] (L7 a0 k0 gens0 r1) (R3 a0 k0 gens0 r1) o) (L7 a0 k0 gens0 r1 s):=by
 obtain ⟨x12,x11⟩:=s
 unfold Dw at h
 try dsimp only at h
 conv=>whnf
 refine Len.map ?_
 conv=>whnf
 refine Br.od h (fun p2 h=> ?_) (fun p2 h=> ?_)
 ·conv=>whnf
  refine Len.map ?_
  conv=>whnf
  refine Ask.o h fun p3 h=> ?_
  conv=>whnf
  refine Elem.o (by first | omega | (simp [Be] at * <;> omega)) ?_
  conv=>whnf
  refine CallQ.o (slr true 1 Ae) (by first | rfl | simp only [Aa,V.fz,fzL,V.up,upL,Ab,Ac,Ad,slr,List.cons_append,List.nil_append] | simp [Aa,V.fz,fzL,V.up,upL,Ab,Ac,Ad,slr]) h (fun r h=>Ad3 h) (fun r4 h=> ?_)
  conv=>whnf
  refine BslQ.o (slr true 1 Ae) [r4] (by exact fun _=>⟨rfl,rfl⟩) (by first | rfl | (simp only [Aa,V.fz,fzL,V.up,upL,Ab,Ac,Ad,slr,List.cons_append,List.nil_append];done) | simp [Aa,V.fz,fzL,V.up,upL,Ab,Ac,Ad,slr]) ?_
  conv=>whnf
  refine NoOwn.own rfl ?_
  conv=>whnf
  refine AppQ.o (m:=1) (slr true 1 Ae) (by exact fun _=>⟨rfl,rfl⟩) (x11) ([r4]) (by first | rfl | simp only [Aa,V.fz,fzL,V.up,upL,Ab,Ac,Ad,slr,List.cons_append,List.nil_append] | simp [Aa,V.fz,fzL,V.up,upL,Ab,Ac,Ad,slr]) (by first | rfl | simp only [Aa,V.fz,fzL,V.up,upL,Ab,Ac,Ad,slr,List.cons_append,List.nil_append] | simp [Aa,V.fz,fzL,V.up,upL,Ab,Ac,Ad,slr]) h fun h=> ?_
  conv=>whnf
  refine Ask.o h fun p5 h=> ?_
  conv=>whnf
  cases h;exact ⟨rfl,rfl⟩
 conv=>whnf
 cases h;exact ⟨rfl,rfl⟩
noncomputable def F8 (a0:SAlgebra) (k0:Int) (_r1:Int):(Int×(List (List Int)))→Option ((Int×(List (List Int))) ⊕ (List (List Int))):=fun (x13,x11)=>
 if x13<(↑a0.Ops.length:Int) then
 ask ((0:Int)≤x13∧x13<(↑a0.Ops.length:Int)) <|
 if (nth a0.Ops x13.toNat).Arity=(0:Int) then
 (Ff (a0) (x13) (Au (List Int)) (k0)).bind fun r10=>
 ask ((x11).length+([r10]).length≤LIM) <|
 ask (InI (x13+(1:Int))) <|
 some (.inl (x13+(1:Int),x11++[r10]))
 else
 ask (InI (x13+(1:Int))) <|
 some (.inl (x13+(1:Int),x11))
 else
 some (.inr x11)
def L1 (a0:SAlgebra) (k0:Int) (r1:Int):(Int×(List (List Int)))→St:=fun s=>[(13,A.val (Ae s.1)),(11,A.val ((slr true 1 (slr true 1 Ae)) s.2)),(10,A.val (Ae (r1))),(9,A.val ((slr true 1 (slr true 1 Ae)) (Au (List Int)))),(8,A.val ((slr true 1 (slr true 1 Ae)) (Au (List Int)))),(3,A.val ((rP true (A8 false)) (a0))),(1,A.val (Ae (k0)))]
def Rx (a0:SAlgebra) (k0:Int) (r1:Int):(List (List Int))→Tgt
 | s=>((Ex.exit 2),[11,10,9,8,3,1],[(11,A.val ((slr true 1 (slr true 1 Ae)) s)),(10,A.val (Ae (r1))),(9,A.val ((slr true 1 (slr true 1 Ae)) (Au (List Int)))),(8,A.val ((slr true 1 (slr true 1 Ae)) (Au (List Int)))),(3,A.val ((rP true (A8 false)) (a0))),(1,A.val (Ae (k0)))])
theorem Acb {a0:SAlgebra} {k0:Int} {r1:Int} (s:(Int×(List (List Int)))) (o:(Int×(List (List Int))) ⊕ (List (List Int))) (h:F8 a0 k0 r1 s=some o):vc Tryz.prog Sg (Dc [13,11,10,9,8,3,1] (L1 a0 k0 r1) (Rx a0 k0 r1) o) (L1 a0 k0 r1 s):=by
 obtain ⟨x13,x11⟩:=s
 unfold F8 at h
 try dsimp only at h
 conv=>whnf
 refine Cells.lit rfl rfl ?_
 conv=>whnf
 refine Len.map ?_
 conv=>whnf
 refine Br.od h (fun p7 h=> ?_) (fun p7 h=> ?_)
 ·conv=>whnf
  refine Cells.lit rfl rfl ?_
  conv=>whnf
  refine Len.map ?_
  conv=>whnf
  refine Ask.o h fun p8 h=> ?_
  conv=>whnf
  refine Elem.o (by first | omega | (simp [Be] at * <;> omega)) ?_
  conv=>whnf
  refine Br.oe h (fun p9 h=> ?_) (fun p9 h=> ?_)
  ·conv=>whnf
   refine Cells.lit rfl rfl ?_
   conv=>whnf
   refine BslQ.o (slr true 1 Ae) (Au (List Int)) (by exact fun _=>⟨rfl,rfl⟩) (by first | rfl | (simp only [Aa,V.fz,fzL,V.up,upL,Ab,Ac,Ad,slr,List.cons_append,List.nil_append];done) | simp [Aa,V.fz,fzL,V.up,upL,Ab,Ac,Ad,slr]) ?_
   conv=>whnf
   refine CallQ.rd (slr true 1 Ae) (by first | rfl | simp only [Aa,V.fz,fzL,V.up,upL,Ab,Ac,Ad,slr,List.cons_append,List.nil_append] | simp [Aa,V.fz,fzL,V.up,upL,Ab,Ac,Ad,slr]) (fun _=>by simp [V.noFz,Cd]) h (fun r h=>Qm h) (fun r10 h=> ?_)
   conv=>whnf
   refine BslQ.o (slr true 1 Ae) [r10] (by exact fun _=>⟨rfl,rfl⟩) (by first | rfl | (simp only [Aa,V.fz,fzL,V.up,upL,Ab,Ac,Ad,slr,List.cons_append,List.nil_append];done) | simp [Aa,V.fz,fzL,V.up,upL,Ab,Ac,Ad,slr]) ?_
   conv=>whnf
   refine NoOwn.own rfl ?_
   conv=>whnf
   refine AppQ.o (m:=1) (slr true 1 Ae) (by exact fun _=>⟨rfl,rfl⟩) (x11) ([r10]) (by first | rfl | simp only [Aa,V.fz,fzL,V.up,upL,Ab,Ac,Ad,slr,List.cons_append,List.nil_append] | simp [Aa,V.fz,fzL,V.up,upL,Ab,Ac,Ad,slr]) (by first | rfl | simp only [Aa,V.fz,fzL,V.up,upL,Ab,Ac,Ad,slr,List.cons_append,List.nil_append] | simp [Aa,V.fz,fzL,V.up,upL,Ab,Ac,Ad,slr]) h fun h=> ?_
   conv=>whnf
   refine Ask.o h fun p11 h=> ?_
   conv=>whnf
   cases h;exact ⟨rfl,rfl⟩
  conv=>whnf
  refine Ask.o h fun p12 h=> ?_
  conv=>whnf
  cases h;exact ⟨rfl,rfl⟩
 conv=>whnf
 cases h;exact ⟨rfl,rfl⟩
noncomputable def F7 (_a0:SAlgebra) (_k0:Int) (_r1:Int) (q13_11:List (List Int)):(Int×(List (List Int))×(List (List Int)))→Option ((Int×(List (List Int))×(List (List Int))) ⊕ ((List (List Int))×(List (List Int)))):=fun (x14,x9,x8)=>
 if x14<(↑q13_11.length:Int) then
 ask ((0:Int)≤x14∧x14<(↑q13_11.length:Int)) <|
 (C9 (x8) (nth q13_11 x14.toNat)).bind fun r16=>
 if (r16.snd)=true then
 ask (InI (x14+(1:Int))) <|
 some (.inl (x14+(1:Int),x9,x8))
 else
 ask ((0:Int)≤x14∧x14<(↑q13_11.length:Int)) <|
 (E9 (x8) (nth q13_11 x14.toNat)).bind fun r20=>
 ask ((0:Int)≤x14∧x14<(↑q13_11.length:Int)) <|
 ask ((x9).length+([nth q13_11 x14.toNat]).length≤LIM) <|
 ask (InI (x14+(1:Int))) <|
 some (.inl (x14+(1:Int),x9++[nth q13_11 x14.toNat],r20))
 else
 some (.inr (x9,x8))
def Ly (a0:SAlgebra) (k0:Int) (r1:Int) (q13_11:List (List Int)):(Int×(List (List Int))×(List (List Int)))→St:=fun s=>[(11,A.val ((slr true 1 (slr false 1 Ae)) (q13_11))),(14,A.val (Ae s.1)),(10,A.val (Ae (r1))),(9,A.val ((slr true 1 (slr false 1 Ae)) s.2.1)),(8,A.val ((slr true 1 (slr false 1 Ae)) s.2.2)),(3,A.val ((rP true (A8 false)) (a0))),(1,A.val (Ae (k0)))]
def Sf (a0:SAlgebra) (k0:Int) (r1:Int) (_q13_11:List (List Int)):((List (List Int))×(List (List Int)))→Tgt
 | s=>((Ex.exit 4),[10,9,8,3,1],[(10,A.val (Ae (r1))),(9,A.val ((slr true 1 (slr false 1 Ae)) s.1)),(8,A.val ((slr true 1 (slr false 1 Ae)) s.2)),(3,A.val ((rP true (A8 false)) (a0))),(1,A.val (Ae (k0)))])
theorem Abv {a0:SAlgebra} {k0:Int} {r1:Int} {q13_11:List (List Int)} (s:(Int×(List (List Int))×(List (List Int)))) (o:(Int×(List (List Int))×(List (List Int))) ⊕ ((List (List Int))×(List (List Int)))) (h:F7 a0 k0 r1 q13_11 s=some o):vc Tryz.prog Sp (Dc [11,14,10,9,8,3,1] (Ly a0 k0 r1 q13_11) (Sf a0 k0 r1 q13_11) o) (Ly a0 k0 r1 q13_11 s):=by
 obtain ⟨x14,x9,x8⟩:=s
 unfold F7 at h
 try dsimp only at h
 conv=>whnf
 refine Len.map ?_
 conv=>whnf
 refine Br.od h (fun p14 h=> ?_) (fun p14 h=> ?_)
 ·conv=>whnf
  refine Len.map ?_
  conv=>whnf
  refine Ask.o h fun p15 h=> ?_
  conv=>whnf
  refine Cells.one (fun _=>⟨rfl,rfl⟩) (by first | omega | (simp [Be] at * <;> omega)) ?_
  conv=>whnf
  refine CallQ.rd (fun r=>V.tup [Ae r.1,V.bool r.2]) (by first | rfl | simp only [Aa,V.fz,Ab,slr] | simp [Aa,V.fz,fzL,V.up,upL,Ab,Ac,Ad,slr]) (fun _=>by simp [V.noFz,Cb]) h (fun r h=>Nk h) (fun r16 h=> ?_)
  conv=>whnf
  refine Br.flip ?_
  conv=>whnf
  refine Br.ob h (fun p17 h=> ?_) (fun p17 h=> ?_)
  ·conv=>whnf
   refine Ask.o h fun p18 h=> ?_
   conv=>whnf
   cases h;exact ⟨rfl,rfl⟩
  conv=>whnf
  refine Len.map ?_
  conv=>whnf
  refine Ask.o h fun p19 h=> ?_
  conv=>whnf
  refine Cells.one (fun _=>⟨rfl,rfl⟩) (by first | omega | (simp [Be] at * <;> omega)) ?_
  conv=>whnf
  refine CallQ.give (slr true 1 (slr false 1 Ae)) (by first | rfl | simp only [Aa,V.fz,fzL,V.up,upL,Ab,Ac,Ad,slr,List.cons_append,List.nil_append] | simp [Aa,V.fz,fzL,V.up,upL,Ab,Ac,Ad,slr]) rfl (fun _=>rfl) rfl h (fun r h=>Pi h) (fun r20 h=> ?_)
  conv=>whnf
  refine Len.map ?_
  conv=>whnf
  refine Ask.o h fun p21 h=> ?_
  conv=>whnf
  refine Cells.one (fun _=>⟨rfl,rfl⟩) (by first | omega | (simp [Be] at * <;> omega)) ?_
  conv=>whnf
  refine BslQ.o (slr false 1 Ae) ([nth q13_11 x14.toNat]) (by exact fun _=>⟨rfl,rfl⟩) (by first | rfl | (simp only [Aa,V.fz,fzL,V.up,upL,Ab,Ac,Ad,slr,List.cons_append,List.nil_append];done) | simp [Aa,V.fz,fzL,V.up,upL,Ab,Ac,Ad,slr]) ?_
  conv=>whnf
  refine NoOwn.o (fun _=>rfl) ?_
  conv=>whnf
  refine AppQ.o (m:=1) (slr false 1 Ae) (by exact fun _=>⟨rfl,rfl⟩) (x9) ([nth q13_11 x14.toNat]) (by first | rfl | simp only [Aa,V.fz,fzL,V.up,upL,Ab,Ac,Ad,slr,List.cons_append,List.nil_append] | simp [Aa,V.fz,fzL,V.up,upL,Ab,Ac,Ad,slr]) (by first | rfl | simp only [Aa,V.fz,fzL,V.up,upL,Ab,Ac,Ad,slr,List.cons_append,List.nil_append] | simp [Aa,V.fz,fzL,V.up,upL,Ab,Ac,Ad,slr]) h fun h=> ?_
  conv=>whnf
  refine Ask.o h fun p22 h=> ?_
  conv=>whnf
  cases h;exact ⟨rfl,rfl⟩
 conv=>whnf
 cases h;exact ⟨rfl,rfl⟩
noncomputable def En (a0:SAlgebra) (k0:Int) (r1:Int) (x17:Int) (x18:Int):(Bool×(List Int)×(List (List Int))×(List (List Int)))→Option ((Bool×(List Int)×(List (List Int))×(List (List Int))) ⊕ ((List (List Int))×(List (List Int)))):=fun (x20,x19,x9'',x8'')=>
 ((if (x20)=true then
 if (↑x9''.length:Int)≤r1 then
 some (.inl ())
 else
 some (.inr ())
 else
 some (.inr ()):Option (Unit ⊕ Unit))).bind fun t=>match t with
 | (.inl _)=>((((Ls (x19) (x17)).bind fun r34=>
 if (r34)=true then
 (G2 (x9'') (x19)).bind fun (r36,u37)=>
 (Ff (a0) (x18) (r36) (k0)).bind fun r38=>
 (C9 (x8'') (r38)).bind fun r39=>
 if (r39.snd)=true then
 some (u37,x8'')
 else
 (E9 (x8'') (r38)).bind fun r41=>
 ask ((u37).length+([r38]).length≤LIM) <|
 some (u37++[r38],r41)
 else
 some (x9'',x8''):Option ((List (List Int))×(List (List Int))))).bind fun (q42_9,q42_8)=>
 ask (InI (x17+(1:Int))) <|
 (Fc (x19) (x17+(1:Int))).bind fun r44=>
 some (.inl (r44.snd,r44.fst,q42_9,q42_8)))
 | (.inr _)=>(some (.inr (x9'',x8'')))
def Mc (a0:SAlgebra) (k0:Int) (r1:Int) (x17:Int) (x18:Int):(Bool×(List Int)×(List (List Int))×(List (List Int)))→St:=fun s=>[(20,A.val (V.bool s.1)),(19,A.val ((slr true 1 Ae) s.2.1)),(18,A.val (Ae (x18))),(17,A.val (Ae (x17))),(10,A.val (Ae (r1))),(9,A.val ((slr true 1 (slr false 1 Ae)) s.2.2.1)),(8,A.val ((slr true 1 (slr false 1 Ae)) s.2.2.2)),(3,A.val ((rP true (A8 false)) (a0))),(1,A.val (Ae (k0)))]
def Si (a0:SAlgebra) (k0:Int) (r1:Int) (x17:Int) (x18:Int):((List (List Int))×(List (List Int)))→Tgt
 | s=>((Ex.exit 10),[18,17,10,9,8,3,1],[(18,A.val (Ae (x18))),(17,A.val (Ae (x17))),(10,A.val (Ae (r1))),(9,A.val ((slr true 1 (slr false 1 Ae)) s.1)),(8,A.val ((slr true 1 (slr false 1 Ae)) s.2)),(3,A.val ((rP true (A8 false)) (a0))),(1,A.val (Ae (k0)))])
theorem Abr {a0:SAlgebra} {k0:Int} {r1:Int} {x17:Int} {x18:Int} (s:(Bool×(List Int)×(List (List Int))×(List (List Int)))) (o:(Bool×(List Int)×(List (List Int))×(List (List Int))) ⊕ ((List (List Int))×(List (List Int)))) (h:En a0 k0 r1 x17 x18 s=some o):vc Tryz.prog Rp (Dc [20,19,18,17,10,9,8,3,1] (Mc a0 k0 r1 x17 x18) (Si a0 k0 r1 x17 x18) o) (Mc a0 k0 r1 x17 x18 s):=by
 obtain ⟨x20,x19,x9'',x8''⟩:=s
 unfold En at h
 try dsimp only at h
 conv=>whnf
 refine CutQ.o (fun t:(Unit ⊕ Unit)=>match t with | (.inl s)=>(Ex.normal,[19,18,17,10,9,8,3,1],[(19,A.val ((slr true 1 Ae) (x19))),(18,A.val (Ae (x18))),(17,A.val (Ae (x17))),(10,A.val (Ae (r1))),(9,A.val ((slr true 1 (slr false 1 Ae)) (x9''))),(8,A.val ((slr true 1 (slr false 1 Ae)) (x8''))),(3,A.val ((rP true (A8 false)) (a0))),(1,A.val (Ae (k0)))]) | (.inr s)=>((Ex.exit 10),[18,17,10,9,8,3,1],[(18,A.val (Ae (x18))),(17,A.val (Ae (x17))),(10,A.val (Ae (r1))),(9,A.val ((slr true 1 (slr false 1 Ae)) (x9''))),(8,A.val ((slr true 1 (slr false 1 Ae)) (x8''))),(3,A.val ((rP true (A8 false)) (a0))),(1,A.val (Ae (k0)))])) h ?_ ?_
 ·intro t h
  conv=>whnf
  refine Br.ob h (fun p31 h=> ?_) (fun p31 h=> ?_)
  ·conv=>whnf
   refine Br.yes ?_
   conv=>whnf
   refine Len.map ?_
   conv=>whnf
   refine Br.yes ?_
   conv=>whnf
   refine Br.yes ?_
   conv=>whnf
   refine Br.yes ?_
   conv=>whnf
   refine Br.od h (fun p32 h=> ?_) (fun p32 h=> ?_)
   ·conv=>whnf
    cases h;exact ⟨rfl,rfl⟩
   conv=>whnf
   cases h;exact ⟨rfl,rfl⟩
  conv=>whnf
  refine Br.no ?_
  conv=>whnf
  refine Br.no ?_
  conv=>whnf
  refine Br.no ?_
  conv=>whnf
  refine Br.no ?_
  conv=>whnf
  refine Br.no ?_
  conv=>whnf
  cases h;exact ⟨rfl,rfl⟩
 rintro (⟨⟩ | ⟨⟩) h
 ·try dsimp only at h
  conv=>whnf
  refine FrzQ.d (V.sl false (1:Nat) (List.map Ae x19)) (by first | (simp only [slr];done) | (simp [Am,V.fz,Ab,slr];done) | (simp [Am,V.fz,fzL,Ab,slr];done)) ?_
  conv=>whnf
  refine CutQ.o (fun t:((List (List Int))×(List (List Int)))=>match t with | s=>(Ex.normal,[19,18,17,10,9,8,3,1],[(19,A.val ((slr false 1 Ae) (x19))),(18,A.val (Ae (x18))),(17,A.val (Ae (x17))),(10,A.val (Ae (r1))),(9,A.val ((slr true 1 (slr false 1 Ae)) s.1)),(8,A.val ((slr true 1 (slr false 1 Ae)) s.2)),(3,A.val ((rP true (A8 false)) (a0))),(1,A.val (Ae (k0)))])) h ?_ ?_
  ·intro t h
   conv=>whnf
   refine CallQ.o V.bool (by first | rfl | simp only [Aa,V.fz,fzL,V.up,upL,Ab,Ac,Ad,slr,List.cons_append,List.nil_append] | simp [Aa,V.fz,fzL,V.up,upL,Ab,Ac,Ad,slr]) h (fun r h=>Apj h) (fun r34 h=> ?_)
   conv=>whnf
   refine Br.ob h (fun p35 h=> ?_) (fun p35 h=> ?_)
   ·conv=>whnf
    refine Cells.lit rfl rfl ?_
    conv=>whnf
    refine LendP.io (slr false 1 (slr false 1 Ae)) (slr true 1 (slr false 1 Ae)) (by first | rfl | simp only [Aa,V.fz,fzL,V.up,upL,Ab,Ac,Ad,slr,List.cons_append,List.nil_append] | simp [Aa,V.fz,fzL,V.up,upL,Ab,Ac,Ad,slr]) (fun _=>rfl) (fun _=>⟨rfl,rfl⟩) (fun _=>rfl) h (fun r h=>Afa h) (fun r36 u37 h=> ?_)
    conv=>whnf
    refine CallQ.o (slr true 1 Ae) (by first | rfl | simp only [Aa,V.fz,fzL,V.up,upL,Ab,Ac,Ad,slr,List.cons_append,List.nil_append] | simp [Aa,V.fz,fzL,V.up,upL,Ab,Ac,Ad,slr]) h (fun r h=>Qm h) (fun r38 h=> ?_)
    conv=>whnf
    refine CallQ.rd (fun r=>V.tup [Ae r.1,V.bool r.2]) (by first | rfl | simp only [V.fz,V.up,Ab,slr] | simp [Aa,V.fz,fzL,V.up,upL,Ab,Ac,Ad,slr]) (fun _=>by simp [V.noFz,Cb]) h (fun r h=>Nk h) (fun r39 h=> ?_)
    conv=>whnf
    refine Br.flip ?_
    conv=>whnf
    refine Br.ob h (fun p40 h=> ?_) (fun p40 h=> ?_)
    ·conv=>whnf
     cases h;exact ⟨rfl,rfl⟩
    conv=>whnf
    refine CallQ.give (slr true 1 (slr false 1 Ae)) (by first | rfl | simp only [V.fz,V.up,Ab,slr] | simp [Aa,V.fz,fzL,V.up,upL,Ab,Ac,Ad,slr]) rfl (fun _=>rfl) rfl h (fun r h=>Pi h) (fun r41 h=> ?_)
    conv=>whnf
    refine BslQ.o (slr false 1 Ae) [r38] (by exact fun _=>⟨rfl,rfl⟩) (by first | rfl | (simp only [V.fz,V.up,Ab];done) | simp [V.fz,V.up,Ab,slr]) ?_
    conv=>whnf
    refine NoOwn.o (fun _=>rfl) ?_
    conv=>whnf
    refine AppQ.o (m:=1) (slr false 1 Ae) (by exact fun _=>⟨rfl,rfl⟩) (u37) ([r38]) (by first | rfl | simp only [Aa,V.fz,fzL,V.up,upL,Ab,Ac,Ad,slr,List.cons_append,List.nil_append] | simp [Aa,V.fz,fzL,V.up,upL,Ab,Ac,Ad,slr]) (by first | rfl | simp only [Aa,V.fz,fzL,V.up,upL,Ab,Ac,Ad,slr,List.cons_append,List.nil_append] | simp [Aa,V.fz,fzL,V.up,upL,Ab,Ac,Ad,slr]) h fun h=> ?_
    conv=>whnf
    cases h;exact ⟨rfl,rfl⟩
   conv=>whnf
   cases h;exact ⟨rfl,rfl⟩
  rintro ⟨q42_9,q42_8⟩ h
  try dsimp only at h
  conv=>whnf
  refine Ask.o h fun p43 h=> ?_
  conv=>whnf
  refine CallQ.o (fun r=>V.tup [(slr true 1 Ae) r.1,V.bool r.2]) (by first | rfl | simp only [Aa,V.fz,fzL,V.up,upL,Ab,Ac,Ad,slr,List.cons_append,List.nil_append] | simp [Aa,V.fz,fzL,V.up,upL,Ab,Ac,Ad,slr]) h (fun r h=>Aae h) (fun r44 h=> ?_)
  conv=>whnf
  cases h;exact ⟨rfl,rfl⟩
 try dsimp only at h
 conv=>whnf
 cases h;exact ⟨rfl,rfl⟩
noncomputable def Er (a0:SAlgebra) (k0:Int) (r1:Int) (x17:Int):(Int×(List (List Int))×(List (List Int)))→Option ((Int×(List (List Int))×(List (List Int))) ⊕ ((List (List Int))×(List (List Int)))):=fun (x18,x9',x8')=>
 if x18<(↑a0.Ops.length:Int) then
 ask ((0:Int)≤x18∧x18<(↑a0.Ops.length:Int)) <|
 ask ((0:Int)≤(nth a0.Ops x18.toNat).Arity∧(nth a0.Ops x18.toNat).Arity≤(↑LIM:Int)) <|
 ask ((0:Int)≤x18∧x18<(↑a0.Ops.length:Int)) <|
 (Ao (En a0 k0 r1 x17 x18) (decide ((nth a0.Ops x18.toNat).Arity>(0:Int)),List.replicate (nth a0.Ops x18.toNat).Arity.toNat (0:Int),x9',x8')).bind fun (q45_9,q45_8)=>
 ask (InI (x18+(1:Int))) <|
 some (.inl (x18+(1:Int),q45_9,q45_8))
 else
 some (.inr (x9',x8'))
def Mb (a0:SAlgebra) (k0:Int) (r1:Int) (x17:Int):(Int×(List (List Int))×(List (List Int)))→St:=fun s=>[(18,A.val (Ae s.1)),(17,A.val (Ae (x17))),(10,A.val (Ae (r1))),(9,A.val ((slr true 1 (slr false 1 Ae)) s.2.1)),(8,A.val ((slr true 1 (slr false 1 Ae)) s.2.2)),(3,A.val ((rP true (A8 false)) (a0))),(1,A.val (Ae (k0)))]
def Sb (a0:SAlgebra) (k0:Int) (r1:Int) (x17:Int):((List (List Int))×(List (List Int)))→Tgt
 | s=>((Ex.exit 8),[17,10,9,8,3,1],[(17,A.val (Ae (x17))),(10,A.val (Ae (r1))),(9,A.val ((slr true 1 (slr false 1 Ae)) s.1)),(8,A.val ((slr true 1 (slr false 1 Ae)) s.2)),(3,A.val ((rP true (A8 false)) (a0))),(1,A.val (Ae (k0)))])
theorem Ad2 {a0:SAlgebra} {k0:Int} {r1:Int} {x17:Int} (s:(Int×(List (List Int))×(List (List Int)))) (o:(Int×(List (List Int))×(List (List Int))) ⊕ ((List (List Int))×(List (List Int)))) (h:Er a0 k0 r1 x17 s=some o):vc Tryz.prog Rr (Dc [18,17,10,9,8,3,1] (Mb a0 k0 r1 x17) (Sb a0 k0 r1 x17) o) (Mb a0 k0 r1 x17 s):=by
 obtain ⟨x18,x9',x8'⟩:=s
 unfold Er at h
 try dsimp only at h
 conv=>whnf
 refine Cells.lit rfl rfl ?_
 conv=>whnf
 refine Len.map ?_
 conv=>whnf
 refine Br.od h (fun p27 h=> ?_) (fun p27 h=> ?_)
 ·conv=>whnf
  refine Cells.lit rfl rfl ?_
  conv=>whnf
  refine Len.map ?_
  conv=>whnf
  refine Ask.o h fun p28 h=> ?_
  conv=>whnf
  refine Elem.o (by first | omega | (simp [Be] at * <;> omega)) ?_
  conv=>whnf
  refine Ask.o h fun p29 h=> ?_
  conv=>whnf
  refine MkQ.o Ae ((0:Int)) rfl ?_
  conv=>whnf
  refine Cells.lit rfl rfl ?_
  conv=>whnf
  refine Len.map ?_
  conv=>whnf
  refine Ask.o h fun p30 h=> ?_
  conv=>whnf
  refine Elem.o (by first | omega | (simp [Be] at * <;> omega)) ?_
  conv=>whnf
  refine LoopQ.o [20,19,18,17,10,9,8,3,1] (Mc a0 k0 r1 x17 x18) (Si a0 k0 r1 x17 x18) h (fun s o h=>Abr s o h) (by first | rfl | simp [restrict,look,Aa,V.fz,fzL,V.up,upL,Ab,Ac,Ad,slr]) (fun _=>rfl) ?_
  rintro ⟨q45_9,q45_8⟩ h
  try dsimp only at h
  conv=>whnf
  refine Ask.o h fun p46 h=> ?_
  conv=>whnf
  cases h;exact ⟨rfl,rfl⟩
 conv=>whnf
 cases h;exact ⟨rfl,rfl⟩
noncomputable def F5 (a0:SAlgebra) (k0:Int) (r1:Int):(Int×(List (List Int))×(List (List Int)))→Option ((Int×(List (List Int))×(List (List Int))) ⊕ (List (List Int))):=fun (x17,x9,x8)=>
 ((if x17<(↑x9.length:Int) then
 if (↑x9.length:Int)≤r1 then
 some (.inl ())
 else
 some (.inr ())
 else
 some (.inr ()):Option (Unit ⊕ Unit))).bind fun t=>match t with
 | (.inl _)=>((Ao (Er a0 k0 r1 x17) ((0:Int),x9,x8)).bind fun (q47_9,q47_8)=>
 ask (InI (x17+(1:Int))) <|
 some (.inl (x17+(1:Int),q47_9,q47_8)))
 | (.inr _)=>(some (.inr x8))
def L4 (a0:SAlgebra) (k0:Int) (r1:Int):(Int×(List (List Int))×(List (List Int)))→St:=fun s=>[(17,A.val (Ae s.1)),(10,A.val (Ae (r1))),(9,A.val ((slr true 1 (slr false 1 Ae)) s.2.1)),(8,A.val ((slr true 1 (slr false 1 Ae)) s.2.2)),(3,A.val ((rP true (A8 false)) (a0))),(1,A.val (Ae (k0)))]
def R7 (_a0:SAlgebra) (_k0:Int) (r1:Int):(List (List Int))→Tgt
 | s=>((Ex.exit 6),[10,8],[(10,A.val (Ae (r1))),(8,A.val ((slr true 1 (slr false 1 Ae)) s))])
theorem Aci {a0:SAlgebra} {k0:Int} {r1:Int} (s:(Int×(List (List Int))×(List (List Int)))) (o:(Int×(List (List Int))×(List (List Int))) ⊕ (List (List Int))) (h:F5 a0 k0 r1 s=some o):vc Tryz.prog Rq (Dc [17,10,9,8,3,1] (L4 a0 k0 r1) (R7 a0 k0 r1) o) (L4 a0 k0 r1 s):=by
 obtain ⟨x17,x9,x8⟩:=s
 unfold F5 at h
 try dsimp only at h
 conv=>whnf
 refine CutQ.o (fun t:(Unit ⊕ Unit)=>match t with | (.inl s)=>(Ex.normal,[17,10,9,8,3,1],[(17,A.val (Ae (x17))),(10,A.val (Ae (r1))),(9,A.val ((slr true 1 (slr false 1 Ae)) (x9))),(8,A.val ((slr true 1 (slr false 1 Ae)) (x8))),(3,A.val ((rP true (A8 false)) (a0))),(1,A.val (Ae (k0)))]) | (.inr s)=>((Ex.exit 6),[10,8],[(10,A.val (Ae (r1))),(8,A.val ((slr true 1 (slr false 1 Ae)) (x8)))])) h ?_ ?_
 ·intro t h
  conv=>whnf
  refine Len.map ?_
  conv=>whnf
  refine Br.od h (fun p24 h=> ?_) (fun p24 h=> ?_)
  ·conv=>whnf
   refine Br.yes ?_
   conv=>whnf
   refine Len.map ?_
   conv=>whnf
   refine Br.yes ?_
   conv=>whnf
   refine Br.yes ?_
   conv=>whnf
   refine Br.yes ?_
   conv=>whnf
   refine Br.od h (fun p25 h=> ?_) (fun p25 h=> ?_)
   ·conv=>whnf
    cases h;exact ⟨rfl,rfl⟩
   conv=>whnf
   cases h;exact ⟨rfl,rfl⟩
  conv=>whnf
  refine Br.no ?_
  conv=>whnf
  refine Br.no ?_
  conv=>whnf
  refine Br.no ?_
  conv=>whnf
  refine Br.no ?_
  conv=>whnf
  refine Br.no ?_
  conv=>whnf
  cases h;exact ⟨rfl,rfl⟩
 rintro (⟨⟩ | ⟨⟩) h
 ·try dsimp only at h
  conv=>whnf
  refine LoopQ.o [18,17,10,9,8,3,1] (Mb a0 k0 r1 x17) (Sb a0 k0 r1 x17) h (fun s o h=>Ad2 s o h) (by first | rfl | simp [restrict,look,Aa,V.fz,fzL,V.up,upL,Ab,Ac,Ad,slr]) (fun _=>rfl) ?_
  rintro ⟨q47_9,q47_8⟩ h
  try dsimp only at h
  conv=>whnf
  refine Ask.o h fun p48 h=> ?_
  conv=>whnf
  cases h;exact ⟨rfl,rfl⟩
 try dsimp only at h
 conv=>whnf
 cases h;exact ⟨rfl,rfl⟩
noncomputable def G3 (a0:SAlgebra) (k0:Int) (gens0:(List (List Int))):Option ((List (List Int))×Bool):=
 (Kh (a0)).bind fun r1=>
 (Ao (Dw a0 k0 gens0 r1) ((0:Int),Au (List Int))).bind fun q6_11=>
 (Ao (F8 a0 k0 r1) ((0:Int),q6_11)).bind fun q13_11=>
 (Ao (F7 a0 k0 r1 q13_11) ((0:Int),Au (List Int),Au (List Int))).bind fun (q23_9,q23_8)=>
 (Ao (F5 a0 k0 r1) ((0:Int),q23_9,q23_8)).bind fun q49_8=>
 some (q49_8,decide ((↑q49_8.length:Int)≤r1))
theorem Ah1 {a0:SAlgebra} {k0:Int} {gens0:(List (List Int))} {v:((List (List Int))×Bool)} (h:G3 a0 k0 gens0=some v):Ret Tryz.prog P2 [(A8 false) a0,Ae k0,(slr false 1 (slr false 1 Ae)) gens0] ((fun r=>V.tup [(slr true 1 (slr false 1 Ae)) r.1,V.bool r.2]) v):=by
 refine A5 Aj1 (Nat.le_of_ble_eq_true rfl) ?_
 unfold G3 at h
 conv=>whnf
 refine BslQ.o (slr true 1 Ae) (Au (List Int)) (by exact fun _=>⟨rfl,rfl⟩) (by first | rfl | (simp only [Aa,V.fz,fzL,V.up,upL,Ab,Ac,Ad,slr,List.cons_append,List.nil_append];done) | simp [Aa,V.fz,fzL,V.up,upL,Ab,Ac,Ad,slr]) ?_
 conv=>whnf
 refine BslQ.o (slr true 1 Ae) (Au (List Int)) (by exact fun _=>⟨rfl,rfl⟩) (by first | rfl | (simp only [Aa,V.fz,fzL,V.up,upL,Ab,Ac,Ad,slr,List.cons_append,List.nil_append];done) | simp [Aa,V.fz,fzL,V.up,upL,Ab,Ac,Ad,slr]) ?_
 conv=>whnf
 refine Cells.lit rfl rfl ?_
 conv=>whnf
 refine CallQ.o Ae (by first | rfl | simp only [Aa,V.fz,fzL,V.up,upL,Ab,Ac,Ad,slr,List.cons_append,List.nil_append] | simp [Aa,V.fz,fzL,V.up,upL,Ab,Ac,Ad,slr]) h (fun r h=>Akp h) (fun r1 h=> ?_)
 conv=>whnf
 refine BslQ.o (slr true 1 Ae) (Au (List Int)) (by exact fun _=>⟨rfl,rfl⟩) (by first | rfl | (simp only [Aa,V.fz,fzL,V.up,upL,Ab,Ac,Ad,slr,List.cons_append,List.nil_append];done) | simp [Aa,V.fz,fzL,V.up,upL,Ab,Ac,Ad,slr]) ?_
 conv=>whnf
 refine LoopQ.o [12,11,10,9,8,3,1,2] (L7 a0 k0 gens0 r1) (R3 a0 k0 gens0 r1) h (fun s o h=>Aco s o h) (by first | rfl | simp [restrict,look,Aa,V.fz,fzL,V.up,upL,Ab,Ac,Ad,slr]) (fun _=>rfl) ?_
 rintro q6_11 h
 try dsimp only at h
 conv=>whnf
 refine LoopQ.o [13,11,10,9,8,3,1] (L1 a0 k0 r1) (Rx a0 k0 r1) h (fun s o h=>Acb s o h) (by first | rfl | simp [restrict,look,Aa,V.fz,fzL,V.up,upL,Ab,Ac,Ad,slr]) (fun _=>rfl) ?_
 rintro q13_11 h
 try dsimp only at h
 conv=>whnf
 refine FrzQ.d (V.sl true (1:Nat) (List.map (slr false (1:Nat) Ae) q13_11)) (by first | (simp only [V.fzAt,M7,Ab,slr];done) | exact Eq.trans (b:=V.sl true (1:Nat) (List.map (slr false (1:Nat) Ae) q13_11)) rfl (by simp only [Ac])) ?_
 conv=>whnf
 refine LoopQ.o [11,14,10,9,8,3,1] (Ly a0 k0 r1 q13_11) (Sf a0 k0 r1 q13_11) h (fun s o h=>Abv s o h) (by first | rfl | simp [restrict,look,Aa,V.fz,fzL,V.up,upL,Ab,Ac,Ad,slr]) (fun _=>rfl) ?_
 rintro ⟨q23_9,q23_8⟩ h
 try dsimp only at h
 conv=>whnf
 refine LoopQ.o [17,10,9,8,3,1] (L4 a0 k0 r1) (R7 a0 k0 r1) h (fun s o h=>Aci s o h) (by first | rfl | simp [restrict,look,Aa,V.fz,fzL,V.up,upL,Ab,Ac,Ad,slr]) (fun _=>rfl) ?_
 rintro q49_8 h
 try dsimp only at h
 conv=>whnf
 refine Len.map ?_
 conv=>whnf
 cases h;exact (by first | rfl | simp only [Ah,Aa,V.fz,fzL,V.up,upL,Ab,Ac,Ad,slr] | simp [Ah,Aa,V.fz,fzL,V.up,upL,Ab,Ac,Ad,slr])
noncomputable def Gv (arity0:Int) (tuples0:(List (List Int))):Option SRelation:=
 (Gu (tuples0)).bind fun r1=>
 (Ha (r1)).bind fun r2=>
 some ({ Arity:=arity0,Tuples:=r2 })
theorem Zn {arity0:Int} {tuples0:(List (List Int))} {v:SRelation} (h:Gv arity0 tuples0=some v):Ret Tryz.prog Js [Ae arity0,(slr false 1 (slr false 1 Ae)) tuples0] ((Ai false) v):=by
 refine Uw Zk (Nat.le_of_ble_eq_true rfl) ?_
 unfold Gv at h
 conv=>whnf
 refine CallQ.o (slr false 1 (slr false 1 Ae)) (by first | rfl | simp only [Aa,V.fz,fzL,V.up,upL,Ab,Ac,Ad,slr,List.cons_append,List.nil_append] | simp [Aa,V.fz,fzL,V.up,upL,Ab,Ac,Ad,slr]) h (fun r h=>Ret.frz (Zq h) (by first | rfl | simp only [V.fz,Ab,slr] | simp [Aa,V.fz,fzL,V.up,upL,Ab,Ac,Ad,slr])) (fun r1 h=> ?_)
 conv=>whnf
 refine CallQ.o (slr true 1 (slr false 1 Ae)) (by first | rfl | simp only [Aa,V.fz,fzL,V.up,upL,Ab,Ac,Ad,slr,List.cons_append,List.nil_append] | simp [Aa,V.fz,fzL,V.up,upL,Ab,Ac,Ad,slr]) h (fun r h=>Aeq h) (fun r2 h=> ?_)
 conv=>whnf
 refine SetKids.lit rfl ?_
 conv=>whnf
 cases h;exact (by first | rfl | simp only [Ah,V.fz,fzL,V.up,Ab,slr] | simp [Ah,Aa,V.fz,fzL,V.up,upL,Ab,Ac,Ad,slr])
end Go.Proofs.YtjcekpmojnnmbaaGreat.Ax
