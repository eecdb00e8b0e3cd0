/-
 What the functions compute, as functions on plain data, and that the program does compute it; written by program.
-/
import Derived.Test.YtmkgjnphianalaaGreatCode
import Derived.Test.YtmkgjnphianalaaGreatG1
import Derived.Test.YtmkgjnphianalaaGreatG2
namespace Go.Proofs.YtmkgjnphianalaaGreat.Ax
open Go
set_option maxRecDepth 100000
set_option maxHeartbeats 4000000
noncomputable def K7 (k0:Int):Option SAlgebra:=
 if k0=(0:Int) then
 (Bg ({ data := #[(48:UInt8),(48:UInt8),(48:UInt8),(49:UInt8)] })).bind fun r2=>
 some ({ Size:=(2:Int),Ops:=[r2] })
 else
 if k0=(1:Int) then
 (Bg ({ data := #[(48:UInt8),(48:UInt8),(48:UInt8),(49:UInt8)] })).bind fun r4=>
 (Bg ({ data := #[(48:UInt8),(49:UInt8),(49:UInt8),(49:UInt8)] })).bind fun r5=>
 some ({ Size:=(2:Int),Ops:=[r4,r5] })
 else
 if k0=(2:Int) then
 (Bg ({ data := #[(48:UInt8),(48:UInt8),(48:UInt8),(49:UInt8)] })).bind fun r7=>
 (Bg ({ data := #[(48:UInt8),(49:UInt8),(49:UInt8),(49:UInt8)] })).bind fun r8=>
 some ({ Size:=(2:Int),Ops:=[r7,r8,{ Arity:=(1:Int),Table:=[(1:Int),(0:Int)] }] })
 else
 if k0=(3:Int) then
 (Hf ((2:Int))).bind fun r10=>
 some ({ Size:=(2:Int),Ops:=[r10] })
 else
 if k0=(4:Int) then
 (Bg ({ data := #[(48:UInt8),(49:UInt8),(50:UInt8),(49:UInt8),(50:UInt8),(48:UInt8),(50:UInt8),(48:UInt8),(49:UInt8)] })).bind fun r12=>
 some ({ Size:=(3:Int),Ops:=[r12] })
 else
 if k0=(5:Int) then
 (Bg ({ data := #[(48:UInt8),(49:UInt8),(48:UInt8),(49:UInt8),(49:UInt8),(50:UInt8),(48:UInt8),(50:UInt8),(50:UInt8)] })).bind fun r14=>
 some ({ Size:=(3:Int),Ops:=[r14] })
 else
 if k0=(6:Int) then
 (Bg ({ data := #[(48:UInt8),(49:UInt8),(50:UInt8),(51:UInt8),(49:UInt8),(48:UInt8),(51:UInt8),(50:UInt8),(50:UInt8),(51:UInt8),(48:UInt8),(49:UInt8),(51:UInt8),(50:UInt8),(49:UInt8),(48:UInt8)] })).bind fun r16=>
 some ({ Size:=(4:Int),Ops:=[r16] })
 else
 if k0=(7:Int) then
 (Bg ({ data := #[(48:UInt8),(48:UInt8),(48:UInt8),(48:UInt8),(49:UInt8),(49:UInt8),(48:UInt8),(49:UInt8),(50:UInt8)] })).bind fun r18=>
 (Bg ({ data := #[(48:UInt8),(49:UInt8),(50:UInt8),(49:UInt8),(49:UInt8),(50:UInt8),(50:UInt8),(50:UInt8),(50:UInt8)] })).bind fun r19=>
 some ({ Size:=(3:Int),Ops:=[r18,r19] })
 else
 if k0=(8:Int) then
 some ({ Size:=(4:Int),Ops:=[{ Arity:=(1:Int),Table:=[(1:Int),(2:Int),(3:Int),(0:Int)] }] })
 else
 if k0=(9:Int) then
 some ({ Size:=(2:Int),Ops:=[{ Arity:=(3:Int),Table:=[(0:Int),(0:Int),(0:Int),(1:Int),(0:Int),(1:Int),(1:Int),(1:Int)] }] })
 else
 if k0=(10:Int) then
 (Bg ({ data := #[(48:UInt8),(48:UInt8),(48:UInt8),(49:UInt8),(49:UInt8),(49:UInt8),(50:UInt8),(50:UInt8),(50:UInt8)] })).bind fun r23=>
 some ({ Size:=(3:Int),Ops:=[r23] })
 else
 if k0=(11:Int) then
 (Bg ({ data := #[(48:UInt8),(48:UInt8),(48:UInt8),(48:UInt8),(48:UInt8),(48:UInt8),(49:UInt8),(48:UInt8),(48:UInt8),(49:UInt8),(48:UInt8),(48:UInt8),(50:UInt8),(48:UInt8),(50:UInt8),(48:UInt8),(48:UInt8),(48:UInt8),(51:UInt8),(51:UInt8),(48:UInt8),(49:UInt8),(50:UInt8),(51:UInt8),(52:UInt8)] })).bind fun r25=>
 (Bg ({ data := #[(48:UInt8),(49:UInt8),(50:UInt8),(51:UInt8),(52:UInt8),(49:UInt8),(49:UInt8),(52:UInt8),(52:UInt8),(52:UInt8),(50:UInt8),(52:UInt8),(50:UInt8),(52:UInt8),(52:UInt8),(51:UInt8),(52:UInt8),(52:UInt8),(51:UInt8),(52:UInt8),(52:UInt8),(52:UInt8),(52:UInt8),(52:UInt8),(52:UInt8)] })).bind fun r26=>
 some ({ Size:=(5:Int),Ops:=[r25,r26] })
 else
 if k0=(12:Int) then
 (Bg ({ data := #[(48:UInt8),(49:UInt8),(50:UInt8),(51:UInt8),(49:UInt8),(50:UInt8),(51:UInt8),(48:UInt8),(50:UInt8),(51:UInt8),(48:UInt8),(49:UInt8),(51:UInt8),(48:UInt8),(49:UInt8),(50:UInt8)] })).bind fun r28=>
 some ({ Size:=(4:Int),Ops:=[r28] })
 else
 if k0=(13:Int) then
 some ({ Size:=(3:Int),Ops:=[{ Arity:=(1:Int),Table:=[(0:Int),(0:Int),(1:Int)] },{ Arity:=(0:Int),Table:=[(2:Int)] }] })
 else
 if k0=(14:Int) then
 (Bg ({ data := #[(48:UInt8)] })).bind fun r31=>
 some ({ Size:=(1:Int),Ops:=[r31] })
 else
 if k0=(15:Int) then
 (Hf ((3:Int))).bind fun r33=>
 some ({ Size:=(3:Int),Ops:=[r33] })
 else
 some ({ Size:=(2:Int),Ops:=Al SOp })
theorem Am6 {k0:Int} {v:SAlgebra} (h:K7 k0=some v):Ret Tryz.prog Ul [Ag k0] ((Ae true) v):=by
 refine A6 Aoc (Nat.le_of_ble_eq_true rfl) ?_
 unfold K7 at h
 refine Br.oe h (fun p1 h=> ?_) (fun p1 h=> ?_)
 ·refine CallQ.o (Aw true) (by rfl) h (fun r h=>Bw h) (fun r2 h=> ?_)
  refine BslQ.o (Aw true) [r2] (by exact fun _=>⟨rfl,rfl⟩) (by first | rfl | (simp only [Aa,V.fz,fzL,V.up,upL,Ab,Ac,Ad,slr,List.cons_append,List.nil_append];done) | simp [Aa,V.fz,fzL,V.up,upL,Ab,Ac,Ad,slr])<|SetKids.lit rfl ?_
  cases h;exact (by rfl)
 refine Br.oe h (fun p3 h=> ?_) (fun p3 h=> ?_)
 ·refine CallQ.o (Aw true) (by rfl) h (fun r h=>Bw h) (fun r4 h=> ?_)
  refine CallQ.o (Aw true) (by rfl) h (fun r h=>Bw h) (fun r5 h=> ?_)
  refine BslQ.o (Aw true) ([r4,r5]) (by exact fun _=>⟨rfl,rfl⟩) (by first | rfl | (simp only [Aa,V.fz,fzL,V.up,upL,Ab,Ac,Ad,slr,List.cons_append,List.nil_append];done) | simp [Aa,V.fz,fzL,V.up,upL,Ab,Ac,Ad,slr])<|SetKids.lit rfl ?_
  cases h;exact (by rfl)
 refine Br.oe h (fun p6 h=> ?_) (fun p6 h=> ?_)
 ·refine CallQ.o (Aw true) (by rfl) h (fun r h=>Bw h) (fun r7 h=> ?_)
  refine CallQ.o (Aw true) (by rfl) h (fun r h=>Bw h) (fun r8 h=> ?_)
  refine BslQ.o Ag ([(1:Int),(0:Int)]) (by exact fun _=>⟨rfl,rfl⟩) (by first | rfl | (simp only [Aa,V.fz,fzL,V.up,upL,Ab,Ac,Ad,slr,List.cons_append,List.nil_append];done) | simp [Aa,V.fz,fzL,V.up,upL,Ab,Ac,Ad,slr])<|BslQ.o (Aw true) ([r7,r8,{ Arity:=(1:Int),Table:=[(1:Int),(0:Int)] }]) (by exact fun _=>⟨rfl,rfl⟩) (by first | rfl | (simp only [Aa,V.fz,fzL,V.up,upL,Ab,Ac,Ad,slr,List.cons_append,List.nil_append];done) | simp [Aa,V.fz,fzL,V.up,upL,Ab,Ac,Ad,slr])<|SetKids.lit rfl ?_
  cases h;exact (by rfl)
 refine Br.oe h (fun p9 h=> ?_) (fun p9 h=> ?_)
 ·refine CallQ.o (Aw true) (by rfl) h (fun r h=>Aac h) (fun r10 h=> ?_)
  refine BslQ.o (Aw true) [r10] (by exact fun _=>⟨rfl,rfl⟩) (by first | rfl | (simp only [Aa,V.fz,fzL,V.up,upL,Ab,Ac,Ad,slr,List.cons_append,List.nil_append];done) | simp [Aa,V.fz,fzL,V.up,upL,Ab,Ac,Ad,slr])<|SetKids.lit rfl ?_
  cases h;exact (by rfl)
 refine Br.oe h (fun p11 h=> ?_) (fun p11 h=> ?_)
 ·refine CallQ.o (Aw true) (by rfl) h (fun r h=>Bw h) (fun r12 h=> ?_)
  refine BslQ.o (Aw true) [r12] (by exact fun _=>⟨rfl,rfl⟩) (by first | rfl | (simp only [Aa,V.fz,fzL,V.up,upL,Ab,Ac,Ad,slr,List.cons_append,List.nil_append];done) | simp [Aa,V.fz,fzL,V.up,upL,Ab,Ac,Ad,slr])<|SetKids.lit rfl ?_
  cases h;exact (by rfl)
 refine Br.oe h (fun p13 h=> ?_) (fun p13 h=> ?_)
 ·refine CallQ.o (Aw true) (by rfl) h (fun r h=>Bw h) (fun r14 h=> ?_)
  refine BslQ.o (Aw true) [r14] (by exact fun _=>⟨rfl,rfl⟩) (by first | rfl | (simp only [Aa,V.fz,fzL,V.up,upL,Ab,Ac,Ad,slr,List.cons_append,List.nil_append];done) | simp [Aa,V.fz,fzL,V.up,upL,Ab,Ac,Ad,slr])<|SetKids.lit rfl ?_
  cases h;exact (by rfl)
 refine Br.oe h (fun p15 h=> ?_) (fun p15 h=> ?_)
 ·refine CallQ.o (Aw true) (by rfl) h (fun r h=>Bw h) (fun r16 h=> ?_)
  refine BslQ.o (Aw true) [r16] (by exact fun _=>⟨rfl,rfl⟩) (by first | rfl | (simp only [Aa,V.fz,fzL,V.up,upL,Ab,Ac,Ad,slr,List.cons_append,List.nil_append];done) | simp [Aa,V.fz,fzL,V.up,upL,Ab,Ac,Ad,slr])<|SetKids.lit rfl ?_
  cases h;exact (by rfl)
 refine Br.oe h (fun p17 h=> ?_) (fun p17 h=> ?_)
 ·refine CallQ.o (Aw true) (by rfl) h (fun r h=>Bw h) (fun r18 h=> ?_)
  refine CallQ.o (Aw true) (by rfl) h (fun r h=>Bw h) (fun r19 h=> ?_)
  refine BslQ.o (Aw true) ([r18,r19]) (by exact fun _=>⟨rfl,rfl⟩) (by first | rfl | (simp only [Aa,V.fz,fzL,V.up,upL,Ab,Ac,Ad,slr,List.cons_append,List.nil_append];done) | simp [Aa,V.fz,fzL,V.up,upL,Ab,Ac,Ad,slr])<|SetKids.lit rfl ?_
  cases h;exact (by rfl)
 refine Br.oe h (fun p20 h=> ?_) (fun p20 h=> ?_)
 ·refine BslQ.o Ag ([(1:Int),(2:Int),(3:Int),(0:Int)]) (by exact fun _=>⟨rfl,rfl⟩) (by first | rfl | (simp only [Aa,V.fz,fzL,V.up,upL,Ab,Ac,Ad,slr,List.cons_append,List.nil_append];done) | simp [Aa,V.fz,fzL,V.up,upL,Ab,Ac,Ad,slr])<|BslQ.o (Aw true) ([{ Arity:=(1:Int),Table:=[(1:Int),(2:Int),(3:Int),(0:Int)] }]) (by exact fun _=>⟨rfl,rfl⟩) (by first | rfl | (simp only [Aa,V.fz,fzL,V.up,upL,Ab,Ac,Ad,slr,List.cons_append,List.nil_append];done) | simp [Aa,V.fz,fzL,V.up,upL,Ab,Ac,Ad,slr])<|SetKids.lit rfl ?_
  cases h;exact (by rfl)
 refine Br.oe h (fun p21 h=> ?_) (fun p21 h=> ?_)
 ·refine BslQ.o Ag ([(0:Int),(0:Int),(0:Int),(1:Int),(0:Int),(1:Int),(1:Int),(1:Int)]) (by exact fun _=>⟨rfl,rfl⟩) (by first | rfl | (simp only [Aa,V.fz,fzL,V.up,upL,Ab,Ac,Ad,slr,List.cons_append,List.nil_append];done) | simp [Aa,V.fz,fzL,V.up,upL,Ab,Ac,Ad,slr])<|BslQ.o (Aw true) ([{ Arity:=(3:Int),Table:=[(0:Int),(0:Int),(0:Int),(1:Int),(0:Int),(1:Int),(1:Int),(1:Int)] }]) (by exact fun _=>⟨rfl,rfl⟩) (by first | rfl | (simp only [Aa,V.fz,fzL,V.up,upL,Ab,Ac,Ad,slr,List.cons_append,List.nil_append];done) | simp [Aa,V.fz,fzL,V.up,upL,Ab,Ac,Ad,slr])<|SetKids.lit rfl ?_
  cases h;exact (by rfl)
 refine Br.oe h (fun p22 h=> ?_) (fun p22 h=> ?_)
 ·refine CallQ.o (Aw true) (by rfl) h (fun r h=>Bw h) (fun r23 h=> ?_)
  refine BslQ.o (Aw true) [r23] (by exact fun _=>⟨rfl,rfl⟩) (by first | rfl | (simp only [Aa,V.fz,fzL,V.up,upL,Ab,Ac,Ad,slr,List.cons_append,List.nil_append];done) | simp [Aa,V.fz,fzL,V.up,upL,Ab,Ac,Ad,slr])<|SetKids.lit rfl ?_
  cases h;exact (by rfl)
 refine Br.oe h (fun p24 h=> ?_) (fun p24 h=> ?_)
 ·refine CallQ.o (Aw true) (by rfl) h (fun r h=>Bw h) (fun r25 h=> ?_)
  refine CallQ.o (Aw true) (by rfl) h (fun r h=>Bw h) (fun r26 h=> ?_)
  refine BslQ.o (Aw true) ([r25,r26]) (by exact fun _=>⟨rfl,rfl⟩) (by first | rfl | (simp only [Aa,V.fz,fzL,V.up,upL,Ab,Ac,Ad,slr,List.cons_append,List.nil_append];done) | simp [Aa,V.fz,fzL,V.up,upL,Ab,Ac,Ad,slr])<|SetKids.lit rfl ?_
  cases h;exact (by rfl)
 refine Br.oe h (fun p27 h=> ?_) (fun p27 h=> ?_)
 ·refine CallQ.o (Aw true) (by rfl) h (fun r h=>Bw h) (fun r28 h=> ?_)
  refine BslQ.o (Aw true) [r28] (by exact fun _=>⟨rfl,rfl⟩) (by first | rfl | (simp only [Aa,V.fz,fzL,V.up,upL,Ab,Ac,Ad,slr,List.cons_append,List.nil_append];done) | simp [Aa,V.fz,fzL,V.up,upL,Ab,Ac,Ad,slr])<|SetKids.lit rfl ?_
  cases h;exact (by rfl)
 refine Br.oe h (fun p29 h=> ?_) (fun p29 h=> ?_)
 ·refine BslQ.o Ag ([(0:Int),(0:Int),(1:Int)]) (by exact fun _=>⟨rfl,rfl⟩) (by first | rfl | (simp only [Aa,V.fz,fzL,V.up,upL,Ab,Ac,Ad,slr,List.cons_append,List.nil_append];done) | simp [Aa,V.fz,fzL,V.up,upL,Ab,Ac,Ad,slr])<|BslQ.o Ag ([(2:Int)]) (by exact fun _=>⟨rfl,rfl⟩) (by first | rfl | (simp only [Aa,V.fz,fzL,V.up,upL,Ab,Ac,Ad,slr,List.cons_append,List.nil_append];done) | simp [Aa,V.fz,fzL,V.up,upL,Ab,Ac,Ad,slr])<|BslQ.o (Aw true) ([{ Arity:=(1:Int),Table:=[(0:Int),(0:Int),(1:Int)] },{ Arity:=(0:Int),Table:=[(2:Int)] }]) (by exact fun _=>⟨rfl,rfl⟩) (by first | rfl | (simp only [Aa,V.fz,fzL,V.up,upL,Ab,Ac,Ad,slr,List.cons_append,List.nil_append];done) | simp [Aa,V.fz,fzL,V.up,upL,Ab,Ac,Ad,slr])<|SetKids.lit rfl ?_
  cases h;exact (by rfl)
 refine Br.oe h (fun p30 h=> ?_) (fun p30 h=> ?_)
 ·refine CallQ.o (Aw true) (by rfl) h (fun r h=>Bw h) (fun r31 h=> ?_)
  refine BslQ.o (Aw true) [r31] (by exact fun _=>⟨rfl,rfl⟩) (by first | rfl | (simp only [Aa,V.fz,fzL,V.up,upL,Ab,Ac,Ad,slr,List.cons_append,List.nil_append];done) | simp [Aa,V.fz,fzL,V.up,upL,Ab,Ac,Ad,slr])<|SetKids.lit rfl ?_
  cases h;exact (by rfl)
 refine Br.oe h (fun p32 h=> ?_) (fun p32 h=> ?_)
 ·refine CallQ.o (Aw true) (by rfl) h (fun r h=>Aac h) (fun r33 h=> ?_)
  refine BslQ.o (Aw true) [r33] (by exact fun _=>⟨rfl,rfl⟩) (by first | rfl | (simp only [Aa,V.fz,fzL,V.up,upL,Ab,Ac,Ad,slr,List.cons_append,List.nil_append];done) | simp [Aa,V.fz,fzL,V.up,upL,Ab,Ac,Ad,slr])<|SetKids.lit rfl ?_
  cases h;exact (by rfl)
 refine SetKids.lit rfl ?_
 cases h;exact (by rfl)
noncomputable def A9 (c0:Sl1Cur) (n0:Int):Option (Int×Sl1Cur):=
 if n0≤(1:Int) then
 some ((0:Int),c0)
 else
 (Fv (c0)).bind fun (r2,u3)=>
 if n0>(200:Int) then
 ask (InI (r2*(256:Int))) <|
 (Fv (u3)).bind fun (r6,u7)=>
 ask (InI (r2*(256:Int)+r6)) <|
 ask (n0≠(0:Int)) <|
 some ((r2*(256:Int)+r6).tmod n0,u7)
 else
 ask (n0≠(0:Int)) <|
 some (r2.tmod n0,u3)
theorem Bh {c0:Sl1Cur} {n0:Int} {v:(Int×Sl1Cur)} (h:A9 c0 n0=some v):I9 Tryz.prog Ba [(rP true (Am false)) c0,Ag n0] (Ag v.1) 0 ((rP true (Am false)) v.2):=by
 refine Lg Agm (Nat.le_of_ble_eq_true rfl) ?_
 unfold A9 at h
 refine Br.od h (fun p1 h=> ?_) (fun p1 h=> ?_)
 ·cases h;exact ⟨(by rfl),(by rfl)⟩
 refine CallQ.io Ag (rP true (Am false)) (by rfl) rfl (fun _=>rfl) (fun _=>⟨rfl,rfl⟩) rfl h (fun r h=>Vz h) (fun r2 u3 h=> ?_)
 refine Br.od h (fun p4 h=> ?_) (fun p4 h=> ?_)
 ·refine Ask.o h fun p5 h=>CallQ.io Ag (rP true (Am false)) (by rfl) rfl (fun _=>rfl) (fun _=>⟨rfl,rfl⟩) rfl h (fun r h=>Vz h) (fun r6 u7 h=> ?_)
  refine Ask.o h fun p8 h=>Ask.o h fun p9 h=> ?_
  cases h;exact ⟨(by rfl),(by rfl)⟩
 refine Ask.o h fun p10 h=> ?_
 cases h;exact ⟨(by rfl),(by rfl)⟩
noncomputable def Qy (f0:SOp) (n0:Int):Option Bool:=
 if f0.Arity≥(0:Int) then
 if f0.Arity≤(3:Int) then
 (Ld (n0) (f0.Arity)).bind fun r3=>
 if (↑f0.Table.length:Int)=r3 then
 (Hw (f0.Table) (n0)).bind fun r5=>
 some r5
 else
 some false
 else
 some false
 else
 some false
theorem Ays {f0:SOp} {n0:Int} {v:Bool} (h:Qy f0 n0=some v):Ret Tryz.prog Ack [(Aw false) f0,Ag n0] (V.bool v):=by
 refine A6 Axw (Nat.le_of_ble_eq_true rfl) ?_
 unfold Qy at h
 refine Cells.lit rfl rfl<|Br.od h (fun p1 h=> ?_) (fun p1 h=> ?_)
 ·refine Br.yes<|Cells.lit rfl rfl<|Br.yes<|Br.yes<|Br.od h (fun p2 h=> ?_) (fun p2 h=> ?_)
  ·refine Br.yes<|Cells.lit rfl rfl<|Br.yes<|Len.map<|Br.yes<|Br.yes<|Br.yes<|Cells.lit rfl rfl<|Br.yes<|CallP.o Ag (by rfl) h (fun r h=>Awi h) (fun r3 h=> ?_)
   refine Br.yes<|Br.yes<|Br.oe h (fun p4 h=> ?_) (fun p4 h=> ?_)
   ·refine Br.yes<|Cells.lit rfl rfl<|Br.yes<|Br.yes<|CallQ.o V.bool (by rfl) h (fun r h=>W7 h) (fun r5 h=> ?_)
    refine Br.yes ?_
    cases h;exact (by rfl)
   refine Br.no<|Br.no<|Br.no<|Br.no ?_
   cases h;exact (by rfl)
  refine Br.no<|Br.no<|Br.no<|Br.no<|Br.no<|Br.no<|Br.no<|Br.no<|Br.no<|Br.no<|Br.no<|Br.no<|Br.no ?_
  cases h;exact (by rfl)
 refine Br.no<|Br.no<|Br.no<|Br.no<|Br.no<|Br.no<|Br.no<|Br.no<|Br.no<|Br.no<|Br.no<|Br.no<|Br.no<|Br.no<|Br.no<|Br.no<|Br.no ?_
 cases h;exact (by rfl)
noncomputable def Nw (a0:SAlgebra) (b0:SAlgebra) (f0:(List Int)):Option Bool:=
 if (↑f0.length:Int)=a0.Size then
 (Hw (f0) (b0.Size)).bind fun r2=>
 some r2
 else
 some false
theorem Avp {a0:SAlgebra} {b0:SAlgebra} {f0:(List Int)} {v:Bool} (h:Nw a0 b0 f0=some v):Ret Tryz.prog Zm [(Ae false) a0,(Ae false) b0,(slr false 1 Ag) f0] (V.bool v):=by
 refine A6 Aw2 (Nat.le_of_ble_eq_true rfl) ?_
 unfold Nw at h
 refine Len.map<|Cells.lit rfl rfl<|Br.oe h (fun p1 h=> ?_) (fun p1 h=> ?_)
 ·refine Br.yes<|Br.yes<|Cells.lit rfl rfl<|Br.yes<|CallQ.o V.bool (by rfl) h (fun r h=>W7 h) (fun r2 h=> ?_)
  refine Br.yes ?_
  cases h;exact (by rfl)
 refine Br.no<|Br.no<|Br.no<|Br.no ?_
 cases h;exact (by rfl)
noncomputable def Fy (a0:SAlgebra) (b0:SAlgebra) (f0:List Int) (x15:Int):Int→Option (Int ⊕ (Int ⊕ Unit)):=fun x23=>
 if x23<(↑(nth a0.Ops x15.toNat).Table.length:Int) then
 ask ((0:Int)≤x23∧x23<(↑(nth a0.Ops x15.toNat).Table.length:Int)) <|
 ask ((0:Int)≤nth (nth a0.Ops x15.toNat).Table x23.toNat∧nth (nth a0.Ops x15.toNat).Table x23.toNat<(↑f0.length:Int)) <|
 ask ((0:Int)≤x15∧x15<(↑b0.Ops.length:Int)) <|
 (Do (x23) ((nth a0.Ops x15.toNat).Arity) (a0) (b0) (f0)).bind fun r7=>
 ask ((0:Int)≤r7∧r7<(↑(nth b0.Ops x15.toNat).Table.length:Int)) <|
 if nth f0 (nth (nth a0.Ops x15.toNat).Table x23.toNat).toNat≠nth (nth b0.Ops x15.toNat).Table r7.toNat then
 some (.inr (.inl x23))
 else
 ask (InI (x23+(1:Int))) <|
 some (.inl (x23+(1:Int)))
 else
 some (.inr (.inr ()))
def Of (a0:SAlgebra) (b0:SAlgebra) (f0:List Int) (x15:Int):Int→St:=fun s=>[(23,A.val (Ag s)),(22,A.val (Ag ((↑(nth a0.Ops x15.toNat).Table.length:Int)))),(21,A.val ((slr false 1 Ag) ((nth a0.Ops x15.toNat).Table))),(8,A.val (Ag (x15))),(9,A.val ((rP true (Aw false)) (nth a0.Ops x15.toNat))),(15,A.val (Ag (x15))),(14,A.val (Ag ((↑a0.Ops.length:Int)))),(13,A.val ((slr false 2 (Aw false)) (a0.Ops))),(4,A.val ((rP true (Ae false)) (b0))),(3,A.val ((rP true (Ae false)) (a0))),(2,A.val ((slr false 1 Ag) (f0)))]
def Wj (a0:SAlgebra) (b0:SAlgebra) (f0:List Int) (x15:Int):(Int ⊕ Unit)→Tgt
 | (.inl s)=>(Ex.ret,[7,6],[(7,A.val (Ag s)),(6,A.val (Ag (x15)))])
 | (.inr _s)=>((Ex.exit 2),[15,14,13,4,3,2],[(15,A.val (Ag (x15))),(14,A.val (Ag ((↑a0.Ops.length:Int)))),(13,A.val ((slr false 2 (Aw false)) (a0.Ops))),(4,A.val ((rP true (Ae false)) (b0))),(3,A.val ((rP true (Ae false)) (a0))),(2,A.val ((slr false 1 Ag) (f0)))])
theorem Ahd {a0:SAlgebra} {b0:SAlgebra} {f0:List Int} {x15:Int} (x23:Int) (o:Int ⊕ (Int ⊕ Unit)) (h:Fy a0 b0 f0 x15 x23=some o):vc Tryz.prog V9 (Cr [23,22,21,8,9,15,14,13,4,3,2] (Of a0 b0 f0 x15) (Wj a0 b0 f0 x15) o) (Of a0 b0 f0 x15 x23):=by
 unfold Fy at h
 try dsimp only at h
 refine Br.od h (fun p3 h=> ?_) (fun p3 h=> ?_)
 ·refine Len.map<|Ask.o h fun p4 h=>Elem.o (by first | omega | (simp [Aq] at * <;> omega))<|Len.map<|Ask.o h fun p5 h=>Elem.o (by first | omega | (simp [Aq] at * <;> omega))<|Cells.lit rfl rfl<|Len.map<|Ask.o h fun p6 h=>Elem.o (by first | omega | (simp [Aq] at * <;> omega))<|Cells.lit rfl rfl<|Cells.lit rfl rfl<|Cells.lit rfl rfl<|CallP.o Ag (by rfl) h (fun r h=>Wl h) (fun r7 h=> ?_)
  refine Len.map<|Ask.o h fun p8 h=>Elem.o (by first | omega | (simp [Aq] at * <;> omega))<|Br.on h (fun p9 h=> ?_) (fun p9 h=> ?_)
  ·cases h;exact ⟨rfl,rfl⟩
  refine Ask.o h fun p10 h=> ?_
  cases h;exact ⟨rfl,rfl⟩
 cases h;exact ⟨rfl,rfl⟩
noncomputable def Fx (a0:SAlgebra) (b0:SAlgebra) (f0:List Int):Int→Option (Int ⊕ ((Int×Int) ⊕ Unit)):=fun x15=>
 if x15<(↑a0.Ops.length:Int) then
 ask ((0:Int)≤x15∧x15<(↑a0.Ops.length:Int)) <|
 (Aj (Fy a0 b0 f0 x15) (0:Int)).bind fun t=>match t with
 | (.inl q11_7)=>(some (.inr (.inl (q11_7,x15))))
 | (.inr _)=>(ask (InI (x15+(1:Int))) <|
 some (.inl (x15+(1:Int))))
 else
 some (.inr (.inr ()))
def Nx (a0:SAlgebra) (b0:SAlgebra) (f0:List Int):Int→St:=fun s=>[(15,A.val (Ag s)),(14,A.val (Ag ((↑a0.Ops.length:Int)))),(13,A.val ((slr false 2 (Aw false)) (a0.Ops))),(4,A.val ((rP true (Ae false)) (b0))),(3,A.val ((rP true (Ae false)) (a0))),(2,A.val ((slr false 1 Ag) (f0)))]
def Vi (_a0:SAlgebra) (_b0:SAlgebra) (_f0:List Int):((Int×Int) ⊕ Unit)→Tgt
 | (.inl s)=>(Ex.ret,[7,6],[(7,A.val (Ag s.1)),(6,A.val (Ag s.2))])
 | (.inr _s)=>((Ex.exit 0),[],[])
theorem Aho {a0:SAlgebra} {b0:SAlgebra} {f0:List Int} (x15:Int) (o:Int ⊕ ((Int×Int) ⊕ Unit)) (h:Fx a0 b0 f0 x15=some o):vc Tryz.prog Wk (Cr [15,14,13,4,3,2] (Nx a0 b0 f0) (Vi a0 b0 f0) o) (Nx a0 b0 f0 x15):=by
 unfold Fx at h
 try dsimp only at h
 refine Br.od h (fun p1 h=> ?_) (fun p1 h=> ?_)
 ·refine Len.map<|Ask.o h fun p2 h=>Elem.o (by first | omega | (simp [Aq] at * <;> omega))<|SetKids.lit rfl<|Cells.lit rfl rfl<|Len.map<|LoopQ.o [23,22,21,8,9,15,14,13,4,3,2] (Of a0 b0 f0 x15) (Wj a0 b0 f0 x15) h (fun s o h=>Ahd s o h) (by rfl) (by rintro (_ | _)<;>rfl) ?_
  rintro (q11_7 | ⟨⟩) h
  ·try dsimp only at h
   cases h;exact ⟨rfl,rfl⟩
  try dsimp only at h
  refine Ask.o h fun p12 h=> ?_
  cases h;exact ⟨rfl,rfl⟩
 cases h;exact ⟨rfl,rfl⟩
noncomputable def Ib (a0:SAlgebra) (b0:SAlgebra) (f0:(List Int)):Option (Int×Int):=
 (Aj (Fx a0 b0 f0) (0:Int)).bind fun t=>match t with
 | (.inl (q13_7,q13_6))=>(some (q13_6,q13_7))
 | (.inr _)=>(some ((-1:Int),(0:Int)))
theorem Anf {a0:SAlgebra} {b0:SAlgebra} {f0:(List Int)} {v:(Int×Int)} (h:Ib a0 b0 f0=some v):Ret Tryz.prog S9 [(Ae false) a0,(Ae false) b0,(slr false 1 Ag) f0] ((fun r=>V.tup [Ag r.1,Ag r.2]) v):=by
 refine A6 Ap1 (Nat.le_of_ble_eq_true rfl) ?_
 unfold Ib at h
 refine Cells.lit rfl rfl<|Len.map<|LoopQ.o [15,14,13,4,3,2] (Nx a0 b0 f0) (Vi a0 b0 f0) h (fun s o h=>Aho s o h) (by rfl) (by rintro (_ | _)<;>rfl) ?_
 rintro (⟨q13_7,q13_6⟩ | ⟨⟩) h
 ·try dsimp only at h
  cases h;exact (by rfl)
 try dsimp only at h
 cases h;exact (by rfl)
end Go.Proofs.YtmkgjnphianalaaGreat.Ax
