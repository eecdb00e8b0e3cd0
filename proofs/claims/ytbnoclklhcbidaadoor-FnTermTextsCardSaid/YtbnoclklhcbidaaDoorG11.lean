/-
 What the functions compute, as functions on plain data, and that the program does compute it; written by program.
-/
import Derived.Test.YtbnoclklhcbidaaDoorCode
import Derived.Test.YtbnoclklhcbidaaDoorG1
import Derived.Test.YtbnoclklhcbidaaDoorG5
import Derived.Test.YtbnoclklhcbidaaDoorG6
import Derived.Test.YtbnoclklhcbidaaDoorG7
import Derived.Test.YtbnoclklhcbidaaDoorG8
import Derived.Test.YtbnoclklhcbidaaDoorG10
namespace Go.Proofs.YtbnoclklhcbidaaDoor.Ax
open Go
set_option maxRecDepth 100000
set_option maxHeartbeats 4000000
noncomputable def El (a0:SAlgebra) (t0:(List Int)) (terms0:(List (List Int))):Option ((List Int)×Bool):=
 (Cq (a0) (t0)).bind fun r1=>
 if (r1)=true then
 if (↑terms0.length:Int)>(6:Int) then
 some (A4 Int,false)
 else
 (Iu (a0) (terms0)).bind fun r4=>
 if (r4)=true then
 (En (t0) (terms0)).bind fun r6=>
 some r6
 else
 some (A4 Int,false)
 else
 some (A4 Int,false)
theorem Uk {a0:SAlgebra} {t0:(List Int)} {terms0:(List (List Int))} {v:((List Int)×Bool)} (h:El a0 t0 terms0=some v):Ret Tryd.prog Ii [(Ag false) a0,(slr false 1 Af) t0,(slr false 1 (slr false 1 Af)) terms0] ((fun r=>V.tup [(slr true 1 Af) r.1,V.bool r.2]) v):=by
 refine Bp U6 (Nat.le_of_ble_eq_true rfl) ?_
 unfold El at h
 conv=>whnf
 refine Cells.lit rfl rfl ?_
 conv=>whnf
 refine CallQ.o V.bool (by first | rfl | simp only [Aa,V.fz,fzL,V.up,upL,Ab,Ac,Ad,slr,List.cons_append,List.nil_append] | simp [Aa,V.fz,fzL,V.up,upL,Ab,Ac,Ad,slr]) h (fun r h=>Fb h) (fun r1 h=> ?_)
 conv=>whnf
 refine Br.flip ?_
 conv=>whnf
 refine Br.ob h (fun p2 h=> ?_) (fun p2 h=> ?_)
 ·conv=>whnf
  refine Br.no ?_
  conv=>whnf
  refine Len.map ?_
  conv=>whnf
  refine Br.no ?_
  conv=>whnf
  refine Br.no ?_
  conv=>whnf
  refine Br.od h (fun p3 h=> ?_) (fun p3 h=> ?_)
  ·conv=>whnf
   refine Br.yes ?_
   conv=>whnf
   refine Br.yes ?_
   conv=>whnf
   refine Br.yes ?_
   conv=>whnf
   refine Br.yes ?_
   conv=>whnf
   refine Br.yes ?_
   conv=>whnf
   refine BslQ.o Af (A4 Int) (by exact fun _=>⟨rfl,rfl⟩) (by first | rfl | (simp only [Aa,V.fz,fzL,V.up,upL,Ab,Ac,Ad,slr,List.cons_append,List.nil_append];done) | simp [Aa,V.fz,fzL,V.up,upL,Ab,Ac,Ad,slr]) ?_
   conv=>whnf
   cases h;exact (by first | rfl | simp only [Ah,Aa,V.fz,fzL,V.up,upL,Ab,Ac,Ad,slr] | simp [Ah,Aa,V.fz,fzL,V.up,upL,Ab,Ac,Ad,slr])
  conv=>whnf
  refine Cells.lit rfl rfl ?_
  conv=>whnf
  refine Br.no ?_
  conv=>whnf
  refine Br.no ?_
  conv=>whnf
  refine CallQ.o V.bool (by first | rfl | simp only [Aa,V.fz,fzL,V.up,upL,Ab,Ac,Ad,slr,List.cons_append,List.nil_append] | simp [Aa,V.fz,fzL,V.up,upL,Ab,Ac,Ad,slr]) h (fun r h=>Afl h) (fun r4 h=> ?_)
  conv=>whnf
  refine Br.no ?_
  conv=>whnf
  refine Br.no ?_
  conv=>whnf
  refine Br.flip ?_
  conv=>whnf
  refine Br.ob h (fun p5 h=> ?_) (fun p5 h=> ?_)
  ·conv=>whnf
   refine CallQ.o (fun r=>V.tup [(slr true 1 Af) r.1,V.bool r.2]) (by first | rfl | simp only [Aa,V.fz,fzL,V.up,upL,Ab,Ac,Ad,slr,List.cons_append,List.nil_append] | simp [Aa,V.fz,fzL,V.up,upL,Ab,Ac,Ad,slr]) h (fun r h=>U1 h) (fun r6 h=> ?_)
   conv=>whnf
   cases h;exact (by first | rfl | simp only [Ah,Aa,V.fz,fzL,V.up,upL,Ab,Ac,Ad,slr] | simp [Ah,Aa,V.fz,fzL,V.up,upL,Ab,Ac,Ad,slr])
  conv=>whnf
  refine BslQ.o Af (A4 Int) (by exact fun _=>⟨rfl,rfl⟩) (by first | rfl | (simp only [Aa,V.fz,fzL,V.up,upL,Ab,Ac,Ad,slr,List.cons_append,List.nil_append];done) | simp [Aa,V.fz,fzL,V.up,upL,Ab,Ac,Ad,slr]) ?_
  conv=>whnf
  cases h;exact (by first | rfl | simp only [Ah,Aa,V.fz,fzL,V.up,upL,Ab,Ac,Ad,slr] | simp [Ah,Aa,V.fz,fzL,V.up,upL,Ab,Ac,Ad,slr])
 conv=>whnf
 refine Br.yes ?_
 conv=>whnf
 refine Br.yes ?_
 conv=>whnf
 refine Br.yes ?_
 conv=>whnf
 refine Br.yes ?_
 conv=>whnf
 refine Br.yes ?_
 conv=>whnf
 refine Br.yes ?_
 conv=>whnf
 refine Br.yes ?_
 conv=>whnf
 refine Br.yes ?_
 conv=>whnf
 refine Br.yes ?_
 conv=>whnf
 refine BslQ.o Af (A4 Int) (by exact fun _=>⟨rfl,rfl⟩) (by first | rfl | (simp only [Aa,V.fz,fzL,V.up,upL,Ab,Ac,Ad,slr,List.cons_append,List.nil_append];done) | simp [Aa,V.fz,fzL,V.up,upL,Ab,Ac,Ad,slr]) ?_
 conv=>whnf
 cases h;exact (by first | rfl | simp only [Ah,Aa,V.fz,fzL,V.up,upL,Ab,Ac,Ad,slr] | simp [Ah,Aa,V.fz,fzL,V.up,upL,Ab,Ac,Ad,slr])
noncomputable def Ea (code0:(List Int)):Option (SAlgebra×ByteArray):=
 (Cb ({ code:=code0,at_:=(0:Int),seed:=(0:Int) })).bind fun (r1,u2)=>
 (((Bz (u2) (r1)).bind fun (r3,u4)=>
 (Cq (r1) (r3)).bind fun r5=>
 if (r5)=true then
 (Li fun n=>Ca n (r1) (r3)).bind fun r7=>
 some (r7,u4)
 else
 some ((ByteArray.mk #[120,48]),u4):Option (ByteArray×Sl1Cur))).bind fun (q8_6,q8_4)=>
 (Cg (q8_4) ((4:Int))).bind fun (r9,u10)=>
 if (r9)=true then
 (Do (u10) (q8_6) ((ByteArray.mk #[120,102,48,49,50,57,40,44,41]))).bind fun (r12,_u13)=>
 some (r1,r12)
 else
 some (r1,q8_6)
theorem Sm {code0:(List Int)} {v:(SAlgebra×ByteArray)} (h:Ea code0=some v):Ret Tryd.prog Hr [(slr false 1 (V.int IntKind.u8)) code0] ((fun r=>V.tup [(Ag false) r.1,V.str r.2]) v):=by
 refine Lo Tm (Nat.le_of_ble_eq_true rfl) ?_
 unfold Ea at h
 conv=>whnf
 refine CallQ.io (Ag true) (rP true (Aj false)) (by first | rfl | simp only [Aa,V.fz,fzL,V.up,upL,Ab,Ac,Ad,slr,List.cons_append,List.nil_append] | simp [Aa,V.fz,fzL,V.up,upL,Ab,Ac,Ad,slr]) rfl (fun _=>rfl) (fun _=>⟨rfl,rfl⟩) rfl h (fun r h=>Fq h) (fun r1 u2 h=> ?_)
 conv=>whnf
 refine SetKids.lit rfl ?_
 conv=>whnf
 refine CutQ.o (fun t:(ByteArray×Sl1Cur)=>match t with | s=>(Ex.normal,[6,5,4,2],[(6,A.val (V.str s.1)),(5,A.val ((rP true (Ag false)) (r1))),(4,A.val ((rP true (Aj false)) s.2)),(2,A.val ((rP true (Ag true)) ({ Size:=(0:Int),Ops:=A4 SOp })))])) h ?_ ?_
 ·intro t h
  conv=>whnf
  refine FrzQ.d (V.ptr true (V.agg [V.int IntKind.i64 r1.Size,V.sl false (2:Nat) (List.map (Bi false) r1.Ops)])) (by first | (simp only [V.fzAt,Hu];done) | exact Eq.trans (b:=V.ptr true (V.agg [V.int IntKind.i64 r1.Size,(V.sl true (2:Nat) (List.map (Bi true) r1.Ops)).fz])) rfl (by simp only [Ac])) ?_
  conv=>whnf
  refine Cells.lit rfl rfl ?_
  conv=>whnf
  refine CallQ.io (slr false 1 Af) (rP true (Aj false)) (by first | rfl | simp only [Aa,V.fz,fzL,V.up,upL,Ab,Ac,Ad,slr,List.cons_append,List.nil_append] | simp [Aa,V.fz,fzL,V.up,upL,Ab,Ac,Ad,slr]) rfl (fun _=>rfl) (fun _=>⟨rfl,rfl⟩) rfl h (fun r h=>Dj h) (fun r3 u4 h=> ?_)
  conv=>whnf
  refine Cells.lit rfl rfl ?_
  conv=>whnf
  refine CallQ.o V.bool (by first | rfl | simp only [Aa,V.fz,fzL,V.up,upL,Ab,Ac,Ad,slr,List.cons_append,List.nil_append] | simp [Aa,V.fz,fzL,V.up,upL,Ab,Ac,Ad,slr]) h (fun r h=>Fb h) (fun r5 h=> ?_)
  conv=>whnf
  refine Br.ob h (fun p6 h=> ?_) (fun p6 h=> ?_)
  ·conv=>whnf
   refine Cells.lit rfl rfl ?_
   conv=>whnf
   refine CallQ.o V.str (by first | rfl | simp only [Aa,V.fz,fzL,V.up,upL,Ab,Ac,Ad,slr,List.cons_append,List.nil_append] | simp [Aa,V.fz,fzL,V.up,upL,Ab,Ac,Ad,slr]) h (fun r h=>Pb h) (fun r7 h=> ?_)
   conv=>whnf
   cases h;exact ⟨rfl,rfl⟩
  conv=>whnf
  cases h;exact ⟨rfl,rfl⟩
 rintro ⟨q8_6,q8_4⟩ h
 try dsimp only at h
 conv=>whnf
 refine CallQ.io V.bool (rP true (Aj false)) (by first | rfl | simp only [Aa,V.fz,fzL,V.up,upL,Ab,Ac,Ad,slr,List.cons_append,List.nil_append] | simp [Aa,V.fz,fzL,V.up,upL,Ab,Ac,Ad,slr]) rfl (fun _=>rfl) (fun _=>⟨rfl,rfl⟩) rfl h (fun r h=>F7 h) (fun r9 u10 h=> ?_)
 conv=>whnf
 refine Br.ob h (fun p11 h=> ?_) (fun p11 h=> ?_)
 ·conv=>whnf
  refine CallQ.io V.str (rP true (Aj false)) (by first | rfl | simp only [Aa,V.fz,fzL,V.up,upL,Ab,Ac,Ad,slr,List.cons_append,List.nil_append] | simp [Aa,V.fz,fzL,V.up,upL,Ab,Ac,Ad,slr]) rfl (fun _=>rfl) (fun _=>⟨rfl,rfl⟩) rfl h (fun r h=>Vu h) (fun r12 u13 h=> ?_)
  conv=>whnf
  refine Cells.lit rfl rfl ?_
  conv=>whnf
  refine SetKids.lit rfl ?_
  conv=>whnf
  cases h;exact (by first | rfl | simp only [Ah,Aa,V.fz,fzL,V.up,upL,Ab,Ac,Ad,slr] | simp [Ah,Aa,V.fz,fzL,V.up,upL,Ab,Ac,Ad,slr])
 conv=>whnf
 refine Cells.lit rfl rfl ?_
 conv=>whnf
 refine SetKids.lit rfl ?_
 conv=>whnf
 cases h;exact (by first | rfl | simp only [Ah,Aa,V.fz,fzL,V.up,upL,Ab,Ac,Ad,slr] | simp [Ah,Aa,V.fz,fzL,V.up,upL,Ab,Ac,Ad,slr])
noncomputable def C9 (code0:(List Int)):Option (SAlgebra×(List Int)×(List Int)):=
 (Cb ({ code:=code0,at_:=(0:Int),seed:=(0:Int) })).bind fun (r1,u2)=>
 (Bz (u2) (r1)).bind fun (r3,u4)=>
 (Bz (u4) (r1)).bind fun (r5,_u6)=>
 some (r1,r3,r5)
theorem Qd {code0:(List Int)} {v:(SAlgebra×(List Int)×(List Int))} (h:C9 code0=some v):Ret Tryd.prog F9 [(slr false 1 (V.int IntKind.u8)) code0] ((fun r=>V.tup [(Ag false) r.1,(slr false 1 Af) r.2.1,(slr false 1 Af) r.2.2]) v):=by
 refine Lo Qf (Nat.le_of_ble_eq_true rfl) ?_
 unfold C9 at h
 conv=>whnf
 refine CallQ.io (Ag true) (rP true (Aj false)) (by first | rfl | simp only [Aa,V.fz,fzL,V.up,upL,Ab,Ac,Ad,slr,List.cons_append,List.nil_append] | simp [Aa,V.fz,fzL,V.up,upL,Ab,Ac,Ad,slr]) rfl (fun _=>rfl) (fun _=>⟨rfl,rfl⟩) rfl h (fun r h=>Fq h) (fun r1 u2 h=> ?_)
 conv=>whnf
 refine SetKids.lit rfl ?_
 conv=>whnf
 refine FrzQ.d (V.ptr true (V.agg [V.int IntKind.i64 r1.Size,V.sl false (2:Nat) (List.map (Bi false) r1.Ops)])) (by first | (simp only [V.fzAt,Hu];done) | exact Eq.trans (b:=V.ptr true (V.agg [V.int IntKind.i64 r1.Size,(V.sl true (2:Nat) (List.map (Bi true) r1.Ops)).fz])) rfl (by simp only [Ac])) ?_
 conv=>whnf
 refine Cells.lit rfl rfl ?_
 conv=>whnf
 refine Cells.lit rfl rfl ?_
 conv=>whnf
 refine Cells.lit rfl rfl ?_
 conv=>whnf
 refine Cells.lit rfl rfl ?_
 conv=>whnf
 refine SameQ.mk ⟨rfl,?_⟩
 conv=>whnf
 refine SameQ.mk ⟨rfl,?_⟩
 conv=>whnf
 refine Cells.lit rfl rfl ?_
 conv=>whnf
 refine SameQ.mk ⟨rfl,?_⟩
 conv=>whnf
 refine SameQ.mk ⟨rfl,?_⟩
 conv=>whnf
 refine Cells.lit rfl rfl ?_
 conv=>whnf
 refine SameQ.mk ⟨rfl,?_⟩
 conv=>whnf
 refine CallQ.io (slr false 1 Af) (rP true (Aj false)) (by first | rfl | simp only [Aa,V.fz,fzL,V.up,upL,Ab,Ac,Ad,slr,List.cons_append,List.nil_append] | simp [Aa,V.fz,fzL,V.up,upL,Ab,Ac,Ad,slr]) rfl (fun _=>rfl) (fun _=>⟨rfl,rfl⟩) rfl h (fun r h=>Dj h) (fun r3 u4 h=> ?_)
 conv=>whnf
 refine Cells.lit rfl rfl ?_
 conv=>whnf
 refine SameQ.mk ⟨rfl,?_⟩
 conv=>whnf
 refine SameQ.mk ⟨rfl,?_⟩
 conv=>whnf
 refine Cells.lit rfl rfl ?_
 conv=>whnf
 refine SameQ.mk ⟨rfl,?_⟩
 conv=>whnf
 refine CallQ.io (slr false 1 Af) (rP true (Aj false)) (by first | rfl | simp only [Aa,V.fz,fzL,V.up,upL,Ab,Ac,Ad,slr,List.cons_append,List.nil_append] | simp [Aa,V.fz,fzL,V.up,upL,Ab,Ac,Ad,slr]) rfl (fun _=>rfl) (fun _=>⟨rfl,rfl⟩) rfl h (fun r h=>Dj h) (fun r5 u6 h=> ?_)
 conv=>whnf
 refine Cells.lit rfl rfl ?_
 conv=>whnf
 refine SameQ.mk ⟨rfl,?_⟩
 conv=>whnf
 refine SetKids.lit rfl ?_
 conv=>whnf
 cases h;exact (by first | rfl | simp only [Ah,Aa,V.fz,fzL,V.up,upL,Ab,Ac,Ad,slr] | simp [Ah,Aa,V.fz,fzL,V.up,upL,Ab,Ac,Ad,slr])
noncomputable def Hb (code0:(List Int)):Option (SAlgebra×(List Int)):=
 (Cb ({ code:=code0,at_:=(0:Int),seed:=(0:Int) })).bind fun (r1,u2)=>
 (Bz (u2) (r1)).bind fun (r3,_u4)=>
 some (r1,r3)
theorem Yj {code0:(List Int)} {v:(SAlgebra×(List Int))} (h:Hb code0=some v):Ret Tryd.prog Ke [(slr false 1 (V.int IntKind.u8)) code0] ((fun r=>V.tup [(Ag false) r.1,(slr false 1 Af) r.2]) v):=by
 refine Lo Xe (Nat.le_of_ble_eq_true rfl) ?_
 unfold Hb at h
 conv=>whnf
 refine CallQ.io (Ag true) (rP true (Aj false)) (by first | rfl | simp only [Aa,V.fz,fzL,V.up,upL,Ab,Ac,Ad,slr,List.cons_append,List.nil_append] | simp [Aa,V.fz,fzL,V.up,upL,Ab,Ac,Ad,slr]) rfl (fun _=>rfl) (fun _=>⟨rfl,rfl⟩) rfl h (fun r h=>Fq h) (fun r1 u2 h=> ?_)
 conv=>whnf
 refine SetKids.lit rfl ?_
 conv=>whnf
 refine FrzQ.d (V.ptr true (V.agg [V.int IntKind.i64 r1.Size,V.sl false (2:Nat) (List.map (Bi false) r1.Ops)])) (by first | (simp only [V.fzAt,Hu];done) | exact Eq.trans (b:=V.ptr true (V.agg [V.int IntKind.i64 r1.Size,(V.sl true (2:Nat) (List.map (Bi true) r1.Ops)).fz])) rfl (by simp only [Ac])) ?_
 conv=>whnf
 refine Cells.lit rfl rfl ?_
 conv=>whnf
 refine Cells.lit rfl rfl ?_
 conv=>whnf
 refine Cells.lit rfl rfl ?_
 conv=>whnf
 refine SameQ.mk ⟨rfl,?_⟩
 conv=>whnf
 refine SameQ.mk ⟨rfl,?_⟩
 conv=>whnf
 refine Cells.lit rfl rfl ?_
 conv=>whnf
 refine SameQ.mk ⟨rfl,?_⟩
 conv=>whnf
 refine CallQ.io (slr false 1 Af) (rP true (Aj false)) (by first | rfl | simp only [Aa,V.fz,fzL,V.up,upL,Ab,Ac,Ad,slr,List.cons_append,List.nil_append] | simp [Aa,V.fz,fzL,V.up,upL,Ab,Ac,Ad,slr]) rfl (fun _=>rfl) (fun _=>⟨rfl,rfl⟩) rfl h (fun r h=>Dj h) (fun r3 u4 h=> ?_)
 conv=>whnf
 refine Cells.lit rfl rfl ?_
 conv=>whnf
 refine SameQ.mk ⟨rfl,?_⟩
 conv=>whnf
 refine SetKids.lit rfl ?_
 conv=>whnf
 cases h;exact (by first | rfl | simp only [Ah,Aa,V.fz,fzL,V.up,upL,Ab,Ac,Ad,slr] | simp [Ah,Aa,V.fz,fzL,V.up,upL,Ab,Ac,Ad,slr])
noncomputable def Dn (a0:SAlgebra):(Int×(List (List Int))×Sl1Cur)→Option ((Int×(List (List Int))×Sl1Cur) ⊕ ((List (List Int))×Sl1Cur)):=fun (x6,x5,x22)=>
 if x6>(0:Int) then
 (Bz (x22) (a0)).bind fun (r4,u5)=>
 ask ((x5).length+([r4]).length≤LIM) <|
 ask (InI (x6-(1:Int))) <|
 some (.inl (x6-(1:Int),x5++[r4],u5))
 else
 some (.inr (x5,x22))
def Gu (a0:SAlgebra):(Int×(List (List Int))×Sl1Cur)→St:=fun s=>[(6,A.val (Af s.1)),(5,A.val ((slr true 1 (slr false 1 Af)) s.2.1)),(3,A.val ((rP true (Ag false)) (a0))),(0,A.ref 22 []),(22,A.val ((rP true (Aj false)) s.2.2))]
def J3 (_a0:SAlgebra):((List (List Int))×Sl1Cur)→Tgt
 | s=>((Ex.exit 0),[5,22],[(5,A.val ((slr true 1 (slr false 1 Af)) s.1)),(22,A.val ((rP true (Aj false)) s.2))])
theorem Qu {a0:SAlgebra} (s:(Int×(List (List Int))×Sl1Cur)) (o:(Int×(List (List Int))×Sl1Cur) ⊕ ((List (List Int))×Sl1Cur)) (h:Dn a0 s=some o):vc Tryd.prog Jt (Gg [6,5,3,0,22] (Gu a0) (J3 a0) o) (Gu a0 s):=by
 obtain ⟨x6,x5,x22⟩:=s
 unfold Dn at h
 try dsimp only at h
 conv=>whnf
 refine Br.od h (fun p3 h=> ?_) (fun p3 h=> ?_)
 ·conv=>whnf
  refine Cells.lit rfl rfl ?_
  conv=>whnf
  refine CallQ.io (slr false 1 Af) (rP true (Aj false)) (by first | rfl | simp only [Aa,V.fz,fzL,V.up,upL,Ab,Ac,Ad,slr,List.cons_append,List.nil_append] | simp [Aa,V.fz,fzL,V.up,upL,Ab,Ac,Ad,slr]) rfl (fun _=>rfl) (fun _=>⟨rfl,rfl⟩) rfl h (fun r h=>Dj h) (fun r4 u5 h=> ?_)
  conv=>whnf
  refine BslQ.o (slr false 1 Af) [r4] (by exact fun _=>⟨rfl,rfl⟩) (by first | rfl | (simp only [Aa,V.fz,fzL,V.up,upL,Ab,Ac,Ad,slr,List.cons_append,List.nil_append];done) | simp [Aa,V.fz,fzL,V.up,upL,Ab,Ac,Ad,slr]) ?_
  conv=>whnf
  refine NoOwn.o (fun _=>rfl) ?_
  conv=>whnf
  refine AppQ.o (m:=1) (slr false 1 Af) (by exact fun _=>⟨rfl,rfl⟩) (x5) ([r4]) (by first | rfl | simp only [Aa,V.fz,fzL,V.up,upL,Ab,Ac,Ad,slr,List.cons_append,List.nil_append] | simp [Aa,V.fz,fzL,V.up,upL,Ab,Ac,Ad,slr]) (by first | rfl | simp only [Aa,V.fz,fzL,V.up,upL,Ab,Ac,Ad,slr,List.cons_append,List.nil_append] | simp [Aa,V.fz,fzL,V.up,upL,Ab,Ac,Ad,slr]) h fun h=> ?_
  conv=>whnf
  refine Ask.o h fun p6 h=> ?_
  conv=>whnf
  cases h;exact ⟨rfl,rfl⟩
 conv=>whnf
 cases h;exact ⟨rfl,rfl⟩
noncomputable def Em (c0:Sl1Cur) (a0:SAlgebra):Option ((List (List Int))×Sl1Cur):=
 (Al (c0) ([(3:Int),(6:Int),(6:Int),(2:Int),(1:Int),(0:Int),(7:Int)])).bind fun (r1,u2)=>
 (A7 (Dn a0) (r1,A4 (List Int),u2)).bind fun (q7_5,q7_22)=>
 some (q7_5,q7_22)
theorem U7 {c0:Sl1Cur} {a0:SAlgebra} {v:((List (List Int))×Sl1Cur)} (h:Em c0 a0=some v):Iq Tryd.prog Ik [(rP true (Aj false)) c0,(Ag false) a0] ((slr true 1 (slr false 1 Af)) v.1) 0 ((rP true (Aj false)) v.2):=by
 refine M5 Ut (Nat.le_of_ble_eq_true rfl) ?_
 unfold Em at h
 conv=>whnf
 refine BslQ.o (slr true 1 Af) (A4 (List Int)) (by exact fun _=>⟨rfl,rfl⟩) (by first | rfl | (simp only [Aa,V.fz,fzL,V.up,upL,Ab,Ac,Ad,slr,List.cons_append,List.nil_append];done) | simp [Aa,V.fz,fzL,V.up,upL,Ab,Ac,Ad,slr]) ?_
 conv=>whnf
 refine BslQ.o Af ([(3:Int),(6:Int),(6:Int),(2:Int),(1:Int),(0:Int),(7:Int)]) (by exact fun _=>⟨rfl,rfl⟩) (by first | rfl | (simp only [Aa,V.fz,fzL,V.up,upL,Ab,Ac,Ad,slr,List.cons_append,List.nil_append];done) | simp [Aa,V.fz,fzL,V.up,upL,Ab,Ac,Ad,slr]) ?_
 conv=>whnf
 refine CallQ.io Af (rP true (Aj false)) (by first | rfl | (simp only [Aa,Ak,V.fz,fzL,Ab,Ac,slr];done) | simp [Aa,Ak,V.fz,fzL,V.up,upL,Ab,Ac,Ad,slr]) rfl (fun _=>rfl) (fun _=>⟨rfl,rfl⟩) rfl h (fun r h=>As h) (fun r1 u2 h=> ?_)
 conv=>whnf
 refine LoopQ.o [6,5,3,0,22] (Gu a0) (J3 a0) h (fun s o h=>Qu s o h) (by first | rfl | simp [restrict,look,Aa,V.fz,fzL,V.up,upL,Ab,Ac,Ad,slr]) (fun _=>rfl) ?_
 rintro ⟨q7_5,q7_22⟩ h
 try dsimp only at h
 conv=>whnf
 cases h;exact ⟨(by first | rfl | simp only [Ah,Aa,V.fz,fzL,V.up,upL,Ab,Ac,Ad,slr] | simp [Ah,Aa,V.fz,fzL,V.up,upL,Ab,Ac,Ad,slr]),(by first | rfl | simp only [Ah,Aa,V.fz,fzL,V.up,upL,Ab,Ac,Ad,slr] | simp [Ah,Aa,V.fz,fzL,V.up,upL,Ab,Ac,Ad,slr])⟩
noncomputable def Ep (code0:(List Int)):Option (SAlgebra×(List Int)):=
 (Hb (code0)).bind fun r1=>
 some r1
theorem Uh {code0:(List Int)} {v:(SAlgebra×(List Int))} (h:Ep code0=some v):Ret Tryd.prog Ib [(slr false 1 (V.int IntKind.u8)) code0] ((fun r=>V.tup [(Ag false) r.1,(slr false 1 Af) r.2]) v):=by
 refine Lo Vm (Nat.le_of_ble_eq_true rfl) ?_
 unfold Ep at h
 conv=>whnf
 refine CallQ.o (fun r=>V.tup [(Ag false) r.1,(slr false 1 Af) r.2]) (by first | rfl | simp only [Aa,V.fz,fzL,V.up,upL,Ab,Ac,Ad,slr,List.cons_append,List.nil_append] | simp [Aa,V.fz,fzL,V.up,upL,Ab,Ac,Ad,slr]) h (fun r h=>Yj h) (fun r1 h=> ?_)
 conv=>whnf
 refine SetKids.lit rfl ?_
 conv=>whnf
 cases h;exact (by first | rfl | simp only [Ah,Aa,V.fz,fzL,V.up,upL,Ab,Ac,Ad,slr] | simp [Ah,Aa,V.fz,fzL,V.up,upL,Ab,Ac,Ad,slr])
noncomputable def Eb (code0:(List Int)):Option (SAlgebra×(List Int)×(List Int)):=
 (Cb ({ code:=code0,at_:=(0:Int),seed:=(0:Int) })).bind fun (r1,u2)=>
 (Bz (u2) (r1)).bind fun (r3,u4)=>
 (((Em (u4) (r1)).bind fun (r5,u6)=>
 (El (r1) (r3) (r5)).bind fun r7=>
 if (r7.snd)=true then
 (Cg (u6) ((3:Int))).bind fun (r9,u10)=>
 if (r9)=true then
 some (.inl u10)
 else
 some (.inr r7.fst)
 else
 some (.inl u6):Option (Sl1Cur ⊕ (List Int)))).bind fun t=>match t with
 | (.inl q12_5)=>((Bz (q12_5) (r1)).bind fun (r13,_u14)=>
 some (r1,r3,r13))
 | (.inr q12_4)=>(some (r1,r3,q12_4))
theorem Sd {code0:(List Int)} {v:(SAlgebra×(List Int)×(List Int))} (h:Eb code0=some v):Ret Tryd.prog Hl [(slr false 1 (V.int IntKind.u8)) code0] ((fun r=>V.tup [(Ag false) r.1,(slr false 1 Af) r.2.1,(slr false 1 Af) r.2.2]) v):=by
 refine Lo Ti (Nat.le_of_ble_eq_true rfl) ?_
 unfold Eb at h
 conv=>whnf
 refine CallQ.io (Ag true) (rP true (Aj false)) (by first | rfl | simp only [Aa,V.fz,fzL,V.up,upL,Ab,Ac,Ad,slr,List.cons_append,List.nil_append] | simp [Aa,V.fz,fzL,V.up,upL,Ab,Ac,Ad,slr]) rfl (fun _=>rfl) (fun _=>⟨rfl,rfl⟩) rfl h (fun r h=>Fq h) (fun r1 u2 h=> ?_)
 conv=>whnf
 refine SetKids.lit rfl ?_
 conv=>whnf
 refine FrzQ.d (V.ptr true (V.agg [V.int IntKind.i64 r1.Size,V.sl false (2:Nat) (List.map (Bi false) r1.Ops)])) (by first | (simp only [V.fzAt,Hu];done) | exact Eq.trans (b:=V.ptr true (V.agg [V.int IntKind.i64 r1.Size,(V.sl true (2:Nat) (List.map (Bi true) r1.Ops)).fz])) rfl (by simp only [Ac])) ?_
 conv=>whnf
 refine Cells.lit rfl rfl ?_
 conv=>whnf
 refine CallQ.io (slr false 1 Af) (rP true (Aj false)) (by first | rfl | simp only [Aa,V.fz,fzL,V.up,upL,Ab,Ac,Ad,slr,List.cons_append,List.nil_append] | simp [Aa,V.fz,fzL,V.up,upL,Ab,Ac,Ad,slr]) rfl (fun _=>rfl) (fun _=>⟨rfl,rfl⟩) rfl h (fun r h=>Dj h) (fun r3 u4 h=> ?_)
 conv=>whnf
 refine CutQ.o (fun t:(Sl1Cur ⊕ (List Int))=>match t with | (.inl s)=>(Ex.normal,[7,6,5,2],[(7,A.val ((slr false 1 Af) (r3))),(6,A.val ((rP true (Ag false)) (r1))),(5,A.val ((rP true (Aj false)) s)),(2,A.val ((rP true (Ag true)) ({ Size:=(0:Int),Ops:=A4 SOp })))]) | (.inr s)=>(Ex.ret,[4,3,2],[(4,A.val ((slr true 1 Af) s)),(3,A.val ((slr false 1 Af) (r3))),(2,A.val ((rP true (Ag false)) (r1)))])) h ?_ ?_
 ·intro t h
  conv=>whnf
  refine Cells.lit rfl rfl ?_
  conv=>whnf
  refine Cells.lit rfl rfl ?_
  conv=>whnf
  refine LendP.io (slr true 1 (slr false 1 Af)) (rP true (Aj false)) (by first | rfl | simp only [Aa,V.fz,fzL,V.up,upL,Ab,Ac,Ad,slr,List.cons_append,List.nil_append] | simp [Aa,V.fz,fzL,V.up,upL,Ab,Ac,Ad,slr]) (fun _=>rfl) (fun _=>⟨rfl,rfl⟩) (fun _=>rfl) h (fun r h=>U7 h) (fun r5 u6 h=> ?_)
  conv=>whnf
  refine CallP.rd (fun r=>V.tup [(slr true 1 Af) r.1,V.bool r.2]) (by first | rfl | simp only [V.fz,fzL,V.up,Ab,slr] | simp [Aa,V.fz,fzL,V.up,upL,Ab,Ac,Ad,slr]) (fun _=>by simp [V.noFz,Ct,E5]) h (fun r h=>Uk h) (fun r7 h=> ?_)
  conv=>whnf
  refine Br.ob h (fun p8 h=> ?_) (fun p8 h=> ?_)
  ·conv=>whnf
   refine Br.yes ?_
   conv=>whnf
   refine CallQ.io V.bool (rP true (Aj false)) (by first | rfl | simp only [Aa,V.fz,fzL,V.up,upL,Ab,Ac,Ad,slr,List.cons_append,List.nil_append] | simp [Aa,V.fz,fzL,V.up,upL,Ab,Ac,Ad,slr]) rfl (fun _=>rfl) (fun _=>⟨rfl,rfl⟩) rfl h (fun r h=>F7 h) (fun r9 u10 h=> ?_)
   conv=>whnf
   refine Br.yes ?_
   conv=>whnf
   refine Br.yes ?_
   conv=>whnf
   refine Br.flip ?_
   conv=>whnf
   refine Br.ob h (fun p11 h=> ?_) (fun p11 h=> ?_)
   ·conv=>whnf
    cases h;exact ⟨rfl,rfl⟩
   conv=>whnf
   refine Cells.lit rfl rfl ?_
   conv=>whnf
   refine SetKids.lit rfl ?_
   conv=>whnf
   cases h;exact ⟨rfl,rfl⟩
  conv=>whnf
  refine Br.no ?_
  conv=>whnf
  refine Br.no ?_
  conv=>whnf
  refine Br.no ?_
  conv=>whnf
  refine Br.no ?_
  conv=>whnf
  cases h;exact ⟨rfl,rfl⟩
 rintro (q12_5 | q12_4) h
 ·try dsimp only at h
  conv=>whnf
  refine Cells.lit rfl rfl ?_
  conv=>whnf
  refine Cells.lit rfl rfl ?_
  conv=>whnf
  refine Cells.lit rfl rfl ?_
  conv=>whnf
  refine SameQ.mk ⟨rfl,?_⟩
  conv=>whnf
  refine SameQ.mk ⟨rfl,?_⟩
  conv=>whnf
  refine SameQ.mk ⟨rfl,?_⟩
  conv=>whnf
  refine Cells.lit rfl rfl ?_
  conv=>whnf
  refine SameQ.mk ⟨rfl,?_⟩
  conv=>whnf
  refine CallQ.io (slr false 1 Af) (rP true (Aj false)) (by first | rfl | simp only [Aa,V.fz,fzL,V.up,upL,Ab,Ac,Ad,slr,List.cons_append,List.nil_append] | simp [Aa,V.fz,fzL,V.up,upL,Ab,Ac,Ad,slr]) rfl (fun _=>rfl) (fun _=>⟨rfl,rfl⟩) rfl h (fun r h=>Dj h) (fun r13 u14 h=> ?_)
  conv=>whnf
  refine Cells.lit rfl rfl ?_
  conv=>whnf
  refine SameQ.mk ⟨rfl,?_⟩
  conv=>whnf
  refine SameQ.mk ⟨rfl,?_⟩
  conv=>whnf
  refine SetKids.lit rfl ?_
  conv=>whnf
  refine SameQ.mk ⟨rfl,?_⟩
  conv=>whnf
  cases h;exact (by first | rfl | simp only [Ah,Aa,V.fz,fzL,V.up,upL,Ab,Ac,Ad,slr] | simp [Ah,Aa,V.fz,fzL,V.up,upL,Ab,Ac,Ad,slr])
 try dsimp only at h
 conv=>whnf
 cases h;exact (by first | rfl | simp only [Ah,V.fz,fzL,V.up,upL,Ab,slr] | simp [Ah,Aa,V.fz,fzL,V.up,upL,Ab,Ac,Ad,slr])
end Go.Proofs.YtbnoclklhcbidaaDoor.Ax
