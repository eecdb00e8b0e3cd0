/-
 What the functions compute, as functions on plain data, and that the program does compute it; written by program.
-/
import Derived.Test.YtmcbocbcpijgeaaCode
import Derived.Test.YtmcbocbcpijgeaaG3
import Derived.Test.YtmcbocbcpijgeaaG6
import Derived.Test.YtmcbocbcpijgeaaG7
import Derived.Test.YtmcbocbcpijgeaaG11
namespace Go.Proofs.Ytmcbocbcpijgeaa.Ax
open Go
set_option maxRecDepth 100000
set_option maxHeartbeats 4000000
noncomputable def Ek (code0:(List Int)):Option (SAlgebra×SIdentity):=
 (Df ({ code:=code0,at_:=(0:Int),seed:=(0:Int) })).bind fun (r1,u2)=>
 (C5 (u2) (r1)).bind fun (r3,_u4)=>
 some (r1,r3)
theorem T3 {code0:(List Int)} {v:(SAlgebra×SIdentity)} (h:Ek code0=some v):Ret Try.prog Hu [(slr false 1 (V.int IntKind.u8)) code0] ((fun r=>V.tup [(Ag false) r.1,(Ak false) r.2]) v):=by
 refine Bp T0 (Nat.le_of_ble_eq_true rfl) ?_
 unfold Ek at h
 conv=>whnf
 refine CallQ.io (Ag true) (rP true (Aj false)) (by first | rfl | simp only [Aa,V.fz,fzL,V.up,upL,Ab,Ac,Ad,slr,List.cons_append,List.nil_append] | simp [Aa,V.fz,fzL,V.up,upL,Ab,Ac,Ad,slr]) rfl (fun _=>rfl) (fun _=>⟨rfl,rfl⟩) rfl h (fun r h=>Lg h) (fun r1 u2 h=> ?_)
 conv=>whnf
 refine SetKids.lit rfl ?_
 conv=>whnf
 refine FrzQ.d (V.ptr true (V.agg [V.int IntKind.i64 r1.Size,V.sl false (2:Nat) (List.map (Bb false) r1.Ops)])) (by first | (simp only [V.fzAt,Kd];done) | exact Eq.trans (b:=V.ptr true (V.agg [V.int IntKind.i64 r1.Size,(V.sl true (2:Nat) (List.map (Bb true) r1.Ops)).fz])) rfl (by simp only [Ac])) ?_
 conv=>whnf
 refine Cells.lit rfl rfl ?_
 conv=>whnf
 refine Cells.lit rfl rfl ?_
 conv=>whnf
 refine LendP.io (Ak false) (rP true (Aj false)) (by first | rfl | simp only [Aa,V.fz,fzL,V.up,upL,Ab,Ac,Ad,slr,List.cons_append,List.nil_append] | simp [Aa,V.fz,fzL,V.up,upL,Ab,Ac,Ad,slr]) (fun _=>rfl) (fun _=>⟨rfl,rfl⟩) (fun _=>rfl) h (fun r h=>J1 h) (fun r3 u4 h=> ?_)
 conv=>whnf
 refine SetKids.lit rfl ?_
 conv=>whnf
 refine SetKids.lit rfl ?_
 conv=>whnf
 cases h;exact (by first | rfl | simp only [Ah,Aa,V.fz,fzL,V.up,upL,Ab,Ac,Ad,slr] | simp [Ah,Aa,V.fz,fzL,V.up,upL,Ab,Ac,Ad,slr])
noncomputable def Cy (r1:SAlgebra):(Int×(List SIdentity)×Sl1Cur)→Option ((Int×(List SIdentity)×Sl1Cur) ⊕ ((List SIdentity)×Sl1Cur)):=fun (x7,x6,x4)=>
 if x7>(0:Int) then
 (C5 (x4) (r1)).bind fun (r6,u7)=>
 ask ((x6).length+([r6]).length≤LIM) <|
 ask (InI (x7-(1:Int))) <|
 some (.inl (x7-(1:Int),x6++[r6],u7))
 else
 some (.inr (x6,x4))
def Fc (r1:SAlgebra):(Int×(List SIdentity)×Sl1Cur)→St:=fun s=>[(7,A.val (Af s.1)),(5,A.val ((rP true (Ag false)) (r1))),(6,A.val ((slr true 2 (Ak false)) s.2.1)),(4,A.val ((rP true (Aj false)) s.2.2)),(2,A.val ((rP true (Ag true)) ({ Size:=(0:Int),Ops:=A8 SOp })))]
def Ho (r1:SAlgebra):((List SIdentity)×Sl1Cur)→Tgt
 | s=>((Ex.exit 0),[5,6,4,2],[(5,A.val ((rP true (Ag false)) (r1))),(6,A.val ((slr true 2 (Ak false)) s.1)),(4,A.val ((rP true (Aj false)) s.2)),(2,A.val ((rP true (Ag true)) ({ Size:=(0:Int),Ops:=A8 SOp })))])
theorem Np {r1:SAlgebra} (s:(Int×(List SIdentity)×Sl1Cur)) (o:(Int×(List SIdentity)×Sl1Cur) ⊕ ((List SIdentity)×Sl1Cur)) (h:Cy r1 s=some o):vc Try.prog Hp (Eu [7,5,6,4,2] (Fc r1) (Ho r1) o) (Fc r1 s):=by
 obtain ⟨x7,x6,x4⟩:=s
 unfold Cy at h
 try dsimp only at h
 conv=>whnf
 refine Br.od h (fun p5 h=> ?_) (fun p5 h=> ?_)
 ·conv=>whnf
  refine Cells.lit rfl rfl ?_
  conv=>whnf
  refine CallQ.io (Ak false) (rP true (Aj false)) (by first | rfl | simp only [Aa,V.fz,fzL,V.up,upL,Ab,Ac,Ad,slr,List.cons_append,List.nil_append] | simp [Aa,V.fz,fzL,V.up,upL,Ab,Ac,Ad,slr]) rfl (fun _=>rfl) (fun _=>⟨rfl,rfl⟩) rfl h (fun r h=>J1 h) (fun r6 u7 h=> ?_)
  conv=>whnf
  refine BslQ.o (Ak false) [r6] (by exact fun _=>⟨rfl,rfl⟩) (by first | rfl | (simp only [Aa,V.fz,fzL,V.up,upL,Ab,Ac,Ad,slr,List.cons_append,List.nil_append];done) | simp [Aa,V.fz,fzL,V.up,upL,Ab,Ac,Ad,slr]) ?_
  conv=>whnf
  refine NoOwn.o (fun _=>rfl) ?_
  conv=>whnf
  refine AppQ.o (m:=2) (Ak false) (by exact fun _=>⟨rfl,rfl⟩) (x6) ([r6]) (by first | rfl | simp only [Aa,V.fz,fzL,V.up,upL,Ab,Ac,Ad,slr,List.cons_append,List.nil_append] | simp [Aa,V.fz,fzL,V.up,upL,Ab,Ac,Ad,slr]) (by first | rfl | simp only [Aa,V.fz,fzL,V.up,upL,Ab,Ac,Ad,slr,List.cons_append,List.nil_append] | simp [Aa,V.fz,fzL,V.up,upL,Ab,Ac,Ad,slr]) h fun h=> ?_
  conv=>whnf
  refine Ask.o h fun p8 h=> ?_
  conv=>whnf
  cases h;exact ⟨rfl,rfl⟩
 conv=>whnf
 cases h;exact ⟨rfl,rfl⟩
noncomputable def Cw (_r1:SAlgebra):((List SIdentity)×Sl1Cur)→Option (((List SIdentity)×Sl1Cur) ⊕ (List SIdentity)):=fun (x6,x4)=>
 (Al (x4) ((2:Int))).bind fun (r13,u14)=>
 ask (InI ((20:Int)+r13)) <|
 if (↑x6.length:Int)<(20:Int)+r13 then
 ask ((x6).length+(([{ Left:=[(0:Int)],Right:=[(0:Int)] }]:List SIdentity)).length≤LIM) <|
 some (.inl (x6++[{ Left:=[(0:Int)],Right:=[(0:Int)] }],u14))
 else
 some (.inr x6)
def Fb (r1:SAlgebra):((List SIdentity)×Sl1Cur)→St:=fun s=>[(5,A.val ((rP true (Ag false)) (r1))),(6,A.val ((slr true 2 (Ak false)) s.1)),(4,A.val ((rP true (Aj false)) s.2)),(2,A.val ((rP true (Ag true)) ({ Size:=(0:Int),Ops:=A8 SOp })))]
def Hn (r1:SAlgebra):(List SIdentity)→Tgt
 | s=>((Ex.exit 2),[5,6,2],[(5,A.val ((rP true (Ag false)) (r1))),(6,A.val ((slr true 2 (Ak false)) s)),(2,A.val ((rP true (Ag true)) ({ Size:=(0:Int),Ops:=A8 SOp })))])
theorem Nq {r1:SAlgebra} (s:((List SIdentity)×Sl1Cur)) (o:((List SIdentity)×Sl1Cur) ⊕ (List SIdentity)) (h:Cw r1 s=some o):vc Try.prog Hq (Eu [5,6,4,2] (Fb r1) (Hn r1) o) (Fb r1 s):=by
 obtain ⟨x6,x4⟩:=s
 unfold Cw at h
 try dsimp only at h
 conv=>whnf
 refine Len.map ?_
 conv=>whnf
 refine CallQ.io Af (rP true (Aj false)) (by first | rfl | simp only [Aa,V.fz,fzL,V.up,upL,Ab,Ac,Ad,slr,List.cons_append,List.nil_append] | simp [Aa,V.fz,fzL,V.up,upL,Ab,Ac,Ad,slr]) rfl (fun _=>rfl) (fun _=>⟨rfl,rfl⟩) rfl h (fun r h=>Am h) (fun r13 u14 h=> ?_)
 conv=>whnf
 refine Ask.o h fun p15 h=> ?_
 conv=>whnf
 refine Br.od h (fun p16 h=> ?_) (fun p16 h=> ?_)
 ·conv=>whnf
  refine BslQ.o Af ([(0:Int)]) (by exact fun _=>⟨rfl,rfl⟩) (by first | rfl | (simp only [Aa,V.fz,fzL,V.up,upL,Ab,Ac,Ad,slr,List.cons_append,List.nil_append];done) | simp [Aa,V.fz,fzL,V.up,upL,Ab,Ac,Ad,slr]) ?_
  conv=>whnf
  refine FrzQ.d (V.sl false (1:Nat) (List.map Af [(0:Int)])) (by first | (simp only [Ao,Ac];done) | (simp [Ao,V.fz,Ab,Ac,slr];done) | (simp [Ao,V.fz,fzL,Ab,slr];done)) ?_
  conv=>whnf
  refine BslQ.o Af ([(0:Int)]) (by exact fun _=>⟨rfl,rfl⟩) (by first | rfl | (simp only [Aa,V.fz,fzL,V.up,upL,Ab,Ac,Ad,slr,List.cons_append,List.nil_append];done) | simp [Aa,V.fz,fzL,V.up,upL,Ab,Ac,Ad,slr]) ?_
  conv=>whnf
  refine FrzQ.d (V.sl false (1:Nat) (List.map Af [(0:Int)])) (by first | (simp only [Ao,Ac];done) | (simp [Ao,V.fz,Ab,Ac,slr];done) | (simp [Ao,V.fz,fzL,Ab,slr];done)) ?_
  conv=>whnf
  refine BslQ.o (Ak false) ([{ Left:=[(0:Int)],Right:=[(0:Int)] }]) (by exact fun _=>⟨rfl,rfl⟩) (by first | rfl | (simp only [Aa,V.fz,fzL,V.up,upL,Ab,Ac,Ad,slr,List.cons_append,List.nil_append];done) | simp [Aa,V.fz,fzL,V.up,upL,Ab,Ac,Ad,slr]) ?_
  conv=>whnf
  refine NoOwn.o (fun _=>rfl) ?_
  conv=>whnf
  refine AppQ.o (m:=2) (Ak false) (by exact fun _=>⟨rfl,rfl⟩) (x6) ([{ Left:=[(0:Int)],Right:=[(0:Int)] }]) (by first | rfl | simp only [Aa,V.fz,fzL,V.up,upL,Ab,Ac,Ad,slr,List.cons_append,List.nil_append] | simp [Aa,V.fz,fzL,V.up,upL,Ab,Ac,Ad,slr]) (by first | rfl | simp only [Aa,V.fz,fzL,V.up,upL,Ab,Ac,Ad,slr,List.cons_append,List.nil_append] | simp [Aa,V.fz,fzL,V.up,upL,Ab,Ac,Ad,slr]) h fun h=> ?_
  conv=>whnf
  cases h;exact ⟨rfl,rfl⟩
 conv=>whnf
 cases h;exact ⟨rfl,rfl⟩
noncomputable def Dp (code0:(List Int)):Option (SAlgebra×(List SIdentity)):=
 (Df ({ code:=code0,at_:=(0:Int),seed:=(0:Int) })).bind fun (r1,u2)=>
 (Al (u2) ((5:Int))).bind fun (r3,u4)=>
 (Ay (Cy r1) (r3,A8 SIdentity,u4)).bind fun (q9_6,q9_4)=>
 (Cf (q9_4) ((32:Int))).bind fun (r10,u11)=>
 if (r10)=true then
 (Ay (Cw r1) (q9_6,u11)).bind fun q17_6=>
 some (r1,q17_6)
 else
 some (r1,q9_6)
theorem Q1 {code0:(List Int)} {v:(SAlgebra×(List SIdentity))} (h:Dp code0=some v):Ret Try.prog Fx [(slr false 1 (V.int IntKind.u8)) code0] ((fun r=>V.tup [(Ag false) r.1,(slr true 2 (Ak false)) r.2]) v):=by
 refine Bp Qr (Nat.le_of_ble_eq_true rfl) ?_
 unfold Dp at h
 conv=>whnf
 refine CallQ.io (Ag true) (rP true (Aj false)) (by first | rfl | simp only [Aa,V.fz,fzL,V.up,upL,Ab,Ac,Ad,slr,List.cons_append,List.nil_append] | simp [Aa,V.fz,fzL,V.up,upL,Ab,Ac,Ad,slr]) rfl (fun _=>rfl) (fun _=>⟨rfl,rfl⟩) rfl h (fun r h=>Lg h) (fun r1 u2 h=> ?_)
 conv=>whnf
 refine SetKids.lit rfl ?_
 conv=>whnf
 refine BslQ.o (Ak true) (A8 SIdentity) (by exact fun _=>⟨rfl,rfl⟩) (by first | rfl | (simp only [Aa,V.fz,fzL,V.up,upL,Ab,Ac,Ad,slr,List.cons_append,List.nil_append];done) | simp [Aa,V.fz,fzL,V.up,upL,Ab,Ac,Ad,slr]) ?_
 conv=>whnf
 refine FrzQ.d (V.ptr true (V.agg [V.int IntKind.i64 r1.Size,V.sl false (2:Nat) (List.map (Bb false) r1.Ops)])) (by first | (simp only [V.fzAt,Kd];done) | exact Eq.trans (b:=V.ptr true (V.agg [V.int IntKind.i64 r1.Size,(V.sl true (2:Nat) (List.map (Bb true) r1.Ops)).fz])) rfl (by simp only [Ac])) ?_
 conv=>whnf
 refine CallQ.io Af (rP true (Aj false)) (by first | rfl | simp only [Aa,V.fz,fzL,V.up,upL,Ab,Ac,Ad,slr,List.cons_append,List.nil_append] | simp [Aa,V.fz,fzL,V.up,upL,Ab,Ac,Ad,slr]) rfl (fun _=>rfl) (fun _=>⟨rfl,rfl⟩) rfl h (fun r h=>Am h) (fun r3 u4 h=> ?_)
 conv=>whnf
 refine LoopQ.o [7,5,6,4,2] (Fc r1) (Ho r1) h (fun s o h=>Np s o h) (by first | rfl | simp [restrict,look,Aa,V.fz,fzL,V.up,upL,Ab,Ac,Ad,slr]) (fun _=>rfl) ?_
 rintro ⟨q9_6,q9_4⟩ h
 try dsimp only at h
 conv=>whnf
 refine CallQ.io V.bool (rP true (Aj false)) (by first | rfl | simp only [Aa,V.fz,fzL,V.up,upL,Ab,Ac,Ad,slr,List.cons_append,List.nil_append] | simp [Aa,V.fz,fzL,V.up,upL,Ab,Ac,Ad,slr]) rfl (fun _=>rfl) (fun _=>⟨rfl,rfl⟩) rfl h (fun r h=>C9 h) (fun r10 u11 h=> ?_)
 conv=>whnf
 refine Br.ob h (fun p12 h=> ?_) (fun p12 h=> ?_)
 ·conv=>whnf
  refine LoopQ.o [5,6,4,2] (Fb r1) (Hn r1) h (fun s o h=>Nq s o h) (by first | rfl | simp [restrict,look,Aa,V.fz,fzL,V.up,upL,Ab,Ac,Ad,slr]) (fun _=>rfl) ?_
  rintro q17_6 h
  try dsimp only at h
  conv=>whnf
  refine Cells.lit rfl rfl ?_
  conv=>whnf
  refine SetKids.lit rfl ?_
  conv=>whnf
  cases h;exact (by first | rfl | simp only [Ah,Aa,V.fz,fzL,V.up,upL,Ab,Ac,Ad,slr] | simp [Ah,Aa,V.fz,fzL,V.up,upL,Ab,Ac,Ad,slr])
 conv=>whnf
 refine Cells.lit rfl rfl ?_
 conv=>whnf
 refine SetKids.lit rfl ?_
 conv=>whnf
 cases h;exact (by first | rfl | simp only [Ah,Aa,V.fz,fzL,V.up,upL,Ab,Ac,Ad,slr] | simp [Ah,Aa,V.fz,fzL,V.up,upL,Ab,Ac,Ad,slr])
end Go.Proofs.Ytmcbocbcpijgeaa.Ax
