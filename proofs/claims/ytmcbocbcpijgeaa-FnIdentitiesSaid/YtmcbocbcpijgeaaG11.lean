/-
 What the functions compute, as functions on plain data, and that the program does compute it; written by program.
-/
import Derived.Test.YtmcbocbcpijgeaaCode
import Derived.Test.YtmcbocbcpijgeaaG2
import Derived.Test.YtmcbocbcpijgeaaG3
import Derived.Test.YtmcbocbcpijgeaaG5
import Derived.Test.YtmcbocbcpijgeaaG6
import Derived.Test.YtmcbocbcpijgeaaG10
namespace Go.Proofs.Ytmcbocbcpijgeaa.Ax
open Go
set_option maxRecDepth 100000
set_option maxHeartbeats 4000000
noncomputable def C5 (c0:Sl1Cur) (a0:SAlgebra):Option (SIdentity×Sl1Cur):=
 (B4 (c0) (a0)).bind fun (r1,u2)=>
 (B4 (u2) (a0)).bind fun (r3,u4)=>
 (Ea ((1:Int)) ((↑a0.Ops.length:Int))).bind fun r5=>
 (Al (u4) (r5)).bind fun (r6,u7)=>
 (((Di (a0)).bind fun r8=>
 if (r8)=true then
 if (↑a0.Ops.length:Int)>(0:Int) then
 ask ((0:Int)≤r6∧r6<(↑a0.Ops.length:Int)) <|
 if (nth a0.Ops r6.toNat).Arity=(2:Int) then
 (Cf (u7) ((3:Int))).bind fun (r13,u14)=>
 some (!r13,u14)
 else
 some (false,u7)
 else
 some (false,u7)
 else
 some (false,u7):Option (Bool×Sl1Cur))).bind fun (q15_42,q15_82)=>
 if (q15_42)=true then
 ask (InI ((-1:Int)-r6)) <|
 (Al (q15_82) ((5:Int))).bind fun (r18,u19)=>
 if r18=(0:Int) then
 some ({ Left:=[(-1:Int)-r6,(0:Int),(1:Int)],Right:=[(-1:Int)-r6,(1:Int),(0:Int)] },u19)
 else
 if r18=(1:Int) then
 some ({ Left:=[(-1:Int)-r6,(-1:Int)-r6,(0:Int),(1:Int),(2:Int)],Right:=[(-1:Int)-r6,(0:Int),(-1:Int)-r6,(1:Int),(2:Int)] },u19)
 else
 if r18=(2:Int) then
 some ({ Left:=[(-1:Int)-r6,(0:Int),(0:Int)],Right:=[(0:Int)] },u19)
 else
 if r18=(3:Int) then
 some ({ Left:=[(-1:Int)-r6,(0:Int),(-1:Int)-r6,(0:Int),(1:Int)],Right:=[(-1:Int)-r6,(0:Int),(1:Int)] },u19)
 else
 some ({ Left:=[(-1:Int)-r6,(0:Int),(1:Int)],Right:=[(0:Int)] },u19)
 else
 some ({ Left:=r1,Right:=r3 },q15_82)
theorem J1 {c0:Sl1Cur} {a0:SAlgebra} {v:(SIdentity×Sl1Cur)} (h:C5 c0 a0=some v):Nj Try.prog E9 [(rP true (Aj false)) c0,(Ag false) a0] ((Ak false) v.1) 0 ((rP true (Aj false)) v.2):=by
 refine Afh Se (Nat.le_of_ble_eq_true rfl) ?_
 unfold C5 at h
 conv=>whnf
 refine Cells.lit rfl rfl ?_
 conv=>whnf
 refine Cells.lit rfl rfl ?_
 conv=>whnf
 obtain ⟨⟨r1,u2⟩,e24,h⟩:=Option.bind_eq_some_iff.1 h
 try dsimp only at h
 obtain ⟨⟨r3,u4⟩,e25,h⟩:=Option.bind_eq_some_iff.1 h
 try dsimp only at h
 obtain ⟨r5,e26,h⟩:=Option.bind_eq_some_iff.1 h
 obtain ⟨⟨r6,u7⟩,e27,h⟩:=Option.bind_eq_some_iff.1 h
 try dsimp only at h
 refine Two.mk ⟨?_,?_⟩
 ·conv=>whnf
  refine SameQ.mk ⟨rfl,?_⟩
  conv=>whnf
  refine Cells.lit rfl rfl ?_
  conv=>whnf
  refine SameQ.mk ⟨rfl,?_⟩
  conv=>whnf
  refine SameQ.mk ⟨rfl,?_⟩
  conv=>whnf
  refine Cells.lit rfl rfl ?_
  conv=>whnf
  refine SameQ.mk ⟨rfl,?_⟩
  conv=>whnf
  refine CallQ.io (slr false 1 Af) (rP true (Aj false)) (by first | rfl | simp only [Aa,V.fz,fzL,V.up,upL,Ab,Ac,Ad,slr,List.cons_append,List.nil_append] | simp [Aa,V.fz,fzL,V.up,upL,Ab,Ac,Ad,slr]) rfl (fun _=>rfl) (fun _=>⟨rfl,rfl⟩) rfl (show Option.bind (B4 (c0) (a0)) some=some (r1,u2) by rw [e24];rfl) (fun r h=>Fg h) (fun b28 c29 hb=> ?_)
  obtain ⟨rfl,rfl⟩:r1=b28∧u2=c29:=by cases hb;exact ⟨rfl,rfl⟩
  conv=>whnf
  refine Two.mk ⟨?_,?_⟩
  ·conv=>whnf
   refine SameQ.mk ⟨rfl,?_⟩
   conv=>whnf
   refine Cells.lit rfl rfl ?_
   conv=>whnf
   refine SameQ.mk ⟨rfl,?_⟩
   conv=>whnf
   refine CallQ.io (slr false 1 Af) (rP true (Aj false)) (by first | rfl | simp only [Aa,V.fz,fzL,V.up,upL,Ab,Ac,Ad,slr,List.cons_append,List.nil_append] | simp [Aa,V.fz,fzL,V.up,upL,Ab,Ac,Ad,slr]) rfl (fun _=>rfl) (fun _=>⟨rfl,rfl⟩) rfl (show Option.bind (B4 (u2) (a0)) some=some (r3,u4) by rw [e25];rfl) (fun r h=>Fg h) (fun b30 c31 hb=> ?_)
   obtain ⟨rfl,rfl⟩:r3=b30∧u4=c31:=by cases hb;exact ⟨rfl,rfl⟩
   conv=>whnf
   refine Two.mk ⟨?_,?_⟩
   ·conv=>whnf
    refine SetKids.lit rfl ?_
    conv=>whnf
    refine Cells.lit rfl rfl ?_
    conv=>whnf
    refine Len.map ?_
    conv=>whnf
    refine CallQ.o Af (by first | rfl | simp only [Aa,V.fz,fzL,V.up,upL,Ab,Ac,Ad,slr,List.cons_append,List.nil_append] | simp [Aa,V.fz,fzL,V.up,upL,Ab,Ac,Ad,slr]) (show Option.bind (Ea ((1:Int)) ((↑a0.Ops.length:Int))) some=some r5 by rw [e26];rfl) (fun r h=>K6 h) (fun b32 hb=> ?_)
    obtain rfl:r5=b32:=(Option.some.inj hb).symm
    conv=>whnf
    refine CallQ.io Af (rP true (Aj false)) (by first | rfl | simp only [Aa,V.fz,fzL,V.up,upL,Ab,Ac,Ad,slr,List.cons_append,List.nil_append] | simp [Aa,V.fz,fzL,V.up,upL,Ab,Ac,Ad,slr]) rfl (fun _=>rfl) (fun _=>⟨rfl,rfl⟩) rfl (show Option.bind (Al (u4) (r5)) some=some (r6,u7) by rw [e27];rfl) (fun r h=>Am h) (fun b33 c34 hb=> ?_)
    obtain ⟨rfl,rfl⟩:r6=b33∧u7=c34:=by cases hb;exact ⟨rfl,rfl⟩
    conv=>whnf
    refine CutQ.o (fun t:(Bool×Sl1Cur)=>match t with | s=>(Ex.normal,[42,6,5,4,0,82],[(42,A.val (V.bool s.1)),(6,A.val (Af (r6))),(5,A.val ((rP true (Ak false)) ({ Left:=r1,Right:=r3 }))),(4,A.val ((rP true (Ak true)) ({ Left:=A8 Int,Right:=A8 Int }))),(0,A.ref 82 []),(82,A.val ((rP true (Aj false)) s.2))])) h ?_ ?_
    ·intro t h
     conv=>whnf
     refine Cells.lit rfl rfl ?_
     conv=>whnf
     refine CallQ.o V.bool (by first | rfl | simp only [Aa,V.fz,fzL,V.up,upL,Ab,Ac,Ad,slr,List.cons_append,List.nil_append] | simp [Aa,V.fz,fzL,V.up,upL,Ab,Ac,Ad,slr]) h (fun r h=>D9 h) (fun r35 h=> ?_)
     conv=>whnf
     refine Br.ob h (fun p36 h=> ?_) (fun p36 h=> ?_)
     ·conv=>whnf
      refine Br.yes ?_
      conv=>whnf
      refine Cells.lit rfl rfl ?_
      conv=>whnf
      refine Br.yes ?_
      conv=>whnf
      refine Len.map ?_
      conv=>whnf
      refine Br.yes ?_
      conv=>whnf
      refine Br.yes ?_
      conv=>whnf
      refine Br.od h (fun p37 h=> ?_) (fun p37 h=> ?_)
      ·conv=>whnf
       refine Br.yes ?_
       conv=>whnf
       refine Cells.lit rfl rfl ?_
       conv=>whnf
       refine Br.yes ?_
       conv=>whnf
       refine Br.yes ?_
       conv=>whnf
       refine Len.map ?_
       conv=>whnf
       refine Ask.o h fun p38 h=> ?_
       conv=>whnf
       refine Elem.o (by first | omega | (simp [Ba] at * <;> omega)) ?_
       conv=>whnf
       refine Br.yes ?_
       conv=>whnf
       refine Br.yes ?_
       conv=>whnf
       refine Br.yes ?_
       conv=>whnf
       refine Br.yes ?_
       conv=>whnf
       refine Br.oe h (fun p39 h=> ?_) (fun p39 h=> ?_)
       ·conv=>whnf
        refine Br.yes ?_
        conv=>whnf
        refine CallQ.io V.bool (rP true (Aj false)) (by first | rfl | simp only [Aa,V.fz,fzL,V.up,upL,Ab,Ac,Ad,slr,List.cons_append,List.nil_append] | simp [Aa,V.fz,fzL,V.up,upL,Ab,Ac,Ad,slr]) rfl (fun _=>rfl) (fun _=>⟨rfl,rfl⟩) rfl h (fun r h=>C9 h) (fun r40 u41 h=> ?_)
        conv=>whnf
        refine Br.yes ?_
        conv=>whnf
        refine Br.yes ?_
        conv=>whnf
        cases h;exact ⟨rfl,rfl⟩
       conv=>whnf
       refine Br.no ?_
       conv=>whnf
       refine Br.no ?_
       conv=>whnf
       refine Br.no ?_
       conv=>whnf
       cases h;exact ⟨rfl,rfl⟩
      conv=>whnf
      refine Br.no ?_
      conv=>whnf
      refine Br.no ?_
      conv=>whnf
      refine Br.no ?_
      conv=>whnf
      refine Br.no ?_
      conv=>whnf
      refine Br.no ?_
      conv=>whnf
      refine Br.no ?_
      conv=>whnf
      refine Br.no ?_
      conv=>whnf
      refine Br.no ?_
      conv=>whnf
      refine Br.no ?_
      conv=>whnf
      refine Br.no ?_
      conv=>whnf
      refine Br.no ?_
      conv=>whnf
      cases h;exact ⟨rfl,rfl⟩
     conv=>whnf
     refine Br.no ?_
     conv=>whnf
     refine Br.no ?_
     conv=>whnf
     refine Br.no ?_
     conv=>whnf
     refine Br.no ?_
     conv=>whnf
     refine Br.no ?_
     conv=>whnf
     refine Br.no ?_
     conv=>whnf
     refine Br.no ?_
     conv=>whnf
     refine Br.no ?_
     conv=>whnf
     refine Br.no ?_
     conv=>whnf
     refine Br.no ?_
     conv=>whnf
     refine Br.no ?_
     conv=>whnf
     refine Br.no ?_
     conv=>whnf
     refine Br.no ?_
     conv=>whnf
     refine Br.no ?_
     conv=>whnf
     refine Br.no ?_
     conv=>whnf
     refine Br.no ?_
     conv=>whnf
     cases h;exact ⟨rfl,rfl⟩
    rintro ⟨q42_42,q42_82⟩ h
    try dsimp only at h
    conv=>whnf
    refine Br.ob h (fun p43 h=> ?_) (fun p43 h=> ?_)
    ·conv=>whnf
     refine Ask.o h fun p44 h=> ?_
     conv=>whnf
     refine CallQ.io Af (rP true (Aj false)) (by first | rfl | simp only [Aa,V.fz,fzL,V.up,upL,Ab,Ac,Ad,slr,List.cons_append,List.nil_append] | simp [Aa,V.fz,fzL,V.up,upL,Ab,Ac,Ad,slr]) rfl (fun _=>rfl) (fun _=>⟨rfl,rfl⟩) rfl h (fun r h=>Am h) (fun r45 u46 h=> ?_)
     conv=>whnf
     refine Br.oe h (fun p47 h=> ?_) (fun p47 h=> ?_)
     ·conv=>whnf
      refine BslQ.o Af ([(-1:Int)-r6,(0:Int),(1:Int)]) (by exact fun _=>⟨rfl,rfl⟩) (by first | rfl | (simp only [Aa,V.fz,fzL,V.up,upL,Ab,Ac,Ad,slr,List.cons_append,List.nil_append];done) | simp [Aa,V.fz,fzL,V.up,upL,Ab,Ac,Ad,slr]) ?_
      conv=>whnf
      refine BslQ.o Af ([(-1:Int)-r6,(1:Int),(0:Int)]) (by exact fun _=>⟨rfl,rfl⟩) (by first | rfl | (simp only [Aa,V.fz,fzL,V.up,upL,Ab,Ac,Ad,slr,List.cons_append,List.nil_append];done) | simp [Aa,V.fz,fzL,V.up,upL,Ab,Ac,Ad,slr]) ?_
      conv=>whnf
      refine SetKids.lit rfl ?_
      conv=>whnf
      cases h;exact ⟨(by first | rfl | simp only [Ah,Aa,V.fz,fzL,V.up,upL,Ab,Ac,Ad,slr] | simp [Ah,Aa,V.fz,fzL,V.up,upL,Ab,Ac,Ad,slr]),(by first | rfl | simp only [Ah,Aa,V.fz,fzL,V.up,upL,Ab,Ac,Ad,slr] | simp [Ah,Aa,V.fz,fzL,V.up,upL,Ab,Ac,Ad,slr])⟩
     conv=>whnf
     refine Br.oe h (fun p48 h=> ?_) (fun p48 h=> ?_)
     ·conv=>whnf
      refine BslQ.o Af ([(-1:Int)-r6,(-1:Int)-r6,(0:Int),(1:Int),(2:Int)]) (by exact fun _=>⟨rfl,rfl⟩) (by first | rfl | (simp only [Aa,V.fz,fzL,V.up,upL,Ab,Ac,Ad,slr,List.cons_append,List.nil_append];done) | simp [Aa,V.fz,fzL,V.up,upL,Ab,Ac,Ad,slr]) ?_
      conv=>whnf
      refine BslQ.o Af ([(-1:Int)-r6,(0:Int),(-1:Int)-r6,(1:Int),(2:Int)]) (by exact fun _=>⟨rfl,rfl⟩) (by first | rfl | (simp only [Aa,V.fz,fzL,V.up,upL,Ab,Ac,Ad,slr,List.cons_append,List.nil_append];done) | simp [Aa,V.fz,fzL,V.up,upL,Ab,Ac,Ad,slr]) ?_
      conv=>whnf
      refine SetKids.lit rfl ?_
      conv=>whnf
      cases h;exact ⟨(by first | rfl | simp only [Ah,Aa,V.fz,fzL,V.up,upL,Ab,Ac,Ad,slr] | simp [Ah,Aa,V.fz,fzL,V.up,upL,Ab,Ac,Ad,slr]),(by first | rfl | simp only [Ah,Aa,V.fz,fzL,V.up,upL,Ab,Ac,Ad,slr] | simp [Ah,Aa,V.fz,fzL,V.up,upL,Ab,Ac,Ad,slr])⟩
     conv=>whnf
     refine Br.oe h (fun p49 h=> ?_) (fun p49 h=> ?_)
     ·conv=>whnf
      refine BslQ.o Af ([(-1:Int)-r6,(0:Int),(0:Int)]) (by exact fun _=>⟨rfl,rfl⟩) (by first | rfl | (simp only [Aa,V.fz,fzL,V.up,upL,Ab,Ac,Ad,slr,List.cons_append,List.nil_append];done) | simp [Aa,V.fz,fzL,V.up,upL,Ab,Ac,Ad,slr]) ?_
      conv=>whnf
      refine BslQ.o Af ([(0:Int)]) (by exact fun _=>⟨rfl,rfl⟩) (by first | rfl | (simp only [Aa,V.fz,fzL,V.up,upL,Ab,Ac,Ad,slr,List.cons_append,List.nil_append];done) | simp [Aa,V.fz,fzL,V.up,upL,Ab,Ac,Ad,slr]) ?_
      conv=>whnf
      refine SetKids.lit rfl ?_
      conv=>whnf
      cases h;exact ⟨(by first | rfl | simp only [Ah,Aa,V.fz,fzL,V.up,upL,Ab,Ac,Ad,slr] | simp [Ah,Aa,V.fz,fzL,V.up,upL,Ab,Ac,Ad,slr]),(by first | rfl | simp only [Ah,Aa,V.fz,fzL,V.up,upL,Ab,Ac,Ad,slr] | simp [Ah,Aa,V.fz,fzL,V.up,upL,Ab,Ac,Ad,slr])⟩
     conv=>whnf
     refine Br.oe h (fun p50 h=> ?_) (fun p50 h=> ?_)
     ·conv=>whnf
      refine BslQ.o Af ([(-1:Int)-r6,(0:Int),(-1:Int)-r6,(0:Int),(1:Int)]) (by exact fun _=>⟨rfl,rfl⟩) (by first | rfl | (simp only [Aa,V.fz,fzL,V.up,upL,Ab,Ac,Ad,slr,List.cons_append,List.nil_append];done) | simp [Aa,V.fz,fzL,V.up,upL,Ab,Ac,Ad,slr]) ?_
      conv=>whnf
      refine BslQ.o Af ([(-1:Int)-r6,(0:Int),(1:Int)]) (by exact fun _=>⟨rfl,rfl⟩) (by first | rfl | (simp only [Aa,V.fz,fzL,V.up,upL,Ab,Ac,Ad,slr,List.cons_append,List.nil_append];done) | simp [Aa,V.fz,fzL,V.up,upL,Ab,Ac,Ad,slr]) ?_
      conv=>whnf
      refine SetKids.lit rfl ?_
      conv=>whnf
      cases h;exact ⟨(by first | rfl | simp only [Ah,Aa,V.fz,fzL,V.up,upL,Ab,Ac,Ad,slr] | simp [Ah,Aa,V.fz,fzL,V.up,upL,Ab,Ac,Ad,slr]),(by first | rfl | simp only [Ah,Aa,V.fz,fzL,V.up,upL,Ab,Ac,Ad,slr] | simp [Ah,Aa,V.fz,fzL,V.up,upL,Ab,Ac,Ad,slr])⟩
     conv=>whnf
     refine BslQ.o Af ([(-1:Int)-r6,(0:Int),(1:Int)]) (by exact fun _=>⟨rfl,rfl⟩) (by first | rfl | (simp only [Aa,V.fz,fzL,V.up,upL,Ab,Ac,Ad,slr,List.cons_append,List.nil_append];done) | simp [Aa,V.fz,fzL,V.up,upL,Ab,Ac,Ad,slr]) ?_
     conv=>whnf
     refine BslQ.o Af ([(0:Int)]) (by exact fun _=>⟨rfl,rfl⟩) (by first | rfl | (simp only [Aa,V.fz,fzL,V.up,upL,Ab,Ac,Ad,slr,List.cons_append,List.nil_append];done) | simp [Aa,V.fz,fzL,V.up,upL,Ab,Ac,Ad,slr]) ?_
     conv=>whnf
     refine SetKids.lit rfl ?_
     conv=>whnf
     cases h;exact ⟨(by first | rfl | simp only [Ah,Aa,V.fz,fzL,V.up,upL,Ab,Ac,Ad,slr] | simp [Ah,Aa,V.fz,fzL,V.up,upL,Ab,Ac,Ad,slr]),(by first | rfl | simp only [Ah,Aa,V.fz,fzL,V.up,upL,Ab,Ac,Ad,slr] | simp [Ah,Aa,V.fz,fzL,V.up,upL,Ab,Ac,Ad,slr])⟩
    conv=>whnf
    refine Cells.lit rfl rfl ?_
    conv=>whnf
    refine SetKids.lit rfl ?_
    conv=>whnf
    cases h;exact ⟨(by first | rfl | simp only [Ah,Aa,V.fz,fzL,V.up,upL,Ab,Ac,Ad,slr] | simp [Ah,Aa,V.fz,fzL,V.up,upL,Ab,Ac,Ad,slr]),(by first | rfl | simp only [Ah,Aa,V.fz,fzL,V.up,upL,Ab,Ac,Ad,slr] | simp [Ah,Aa,V.fz,fzL,V.up,upL,Ab,Ac,Ad,slr])⟩
   conv=>whnf
   refine SetKids.lit rfl ?_
   conv=>whnf
   refine Cells.lit rfl rfl ?_
   conv=>whnf
   refine Len.map ?_
   conv=>whnf
   refine CallQ.o Af (by first | rfl | simp only [Aa,V.fz,fzL,V.up,upL,Ab,Ac,Ad,slr,List.cons_append,List.nil_append] | simp [Aa,V.fz,fzL,V.up,upL,Ab,Ac,Ad,slr]) (show Option.bind (Ea ((1:Int)) ((↑a0.Ops.length:Int))) some=some r5 by rw [e26];rfl) (fun r h=>K6 h) (fun b51 hb=> ?_)
   obtain rfl:r5=b51:=(Option.some.inj hb).symm
   conv=>whnf
   refine CallQ.io Af (rP true (Aj false)) (by first | rfl | simp only [Aa,V.fz,fzL,V.up,upL,Ab,Ac,Ad,slr,List.cons_append,List.nil_append] | simp [Aa,V.fz,fzL,V.up,upL,Ab,Ac,Ad,slr]) rfl (fun _=>rfl) (fun _=>⟨rfl,rfl⟩) rfl (show Option.bind (Al (u4) (r5)) some=some (r6,u7) by rw [e27];rfl) (fun r h=>Am h) (fun b52 c53 hb=> ?_)
   obtain ⟨rfl,rfl⟩:r6=b52∧u7=c53:=by cases hb;exact ⟨rfl,rfl⟩
   conv=>whnf
   refine CutQ.o (fun t:(Bool×Sl1Cur)=>match t with | s=>(Ex.normal,[42,6,5,4,0,82],[(42,A.val (V.bool s.1)),(6,A.val (Af (r6))),(5,A.val ((rP true (Ak false)) ({ Left:=r1,Right:=r3 }))),(4,A.val ((rP true (Ak true)) ({ Left:=A8 Int,Right:=A8 Int }))),(0,A.ref 82 []),(82,A.val ((rP true (Aj false)) s.2))])) h ?_ ?_
   ·intro t h
    conv=>whnf
    refine Cells.lit rfl rfl ?_
    conv=>whnf
    refine CallQ.o V.bool (by first | rfl | simp only [Aa,V.fz,fzL,V.up,upL,Ab,Ac,Ad,slr,List.cons_append,List.nil_append] | simp [Aa,V.fz,fzL,V.up,upL,Ab,Ac,Ad,slr]) h (fun r h=>D9 h) (fun r54 h=> ?_)
    conv=>whnf
    refine Br.ob h (fun p55 h=> ?_) (fun p55 h=> ?_)
    ·conv=>whnf
     refine Br.yes ?_
     conv=>whnf
     refine Cells.lit rfl rfl ?_
     conv=>whnf
     refine Br.yes ?_
     conv=>whnf
     refine Len.map ?_
     conv=>whnf
     refine Br.yes ?_
     conv=>whnf
     refine Br.yes ?_
     conv=>whnf
     refine Br.od h (fun p56 h=> ?_) (fun p56 h=> ?_)
     ·conv=>whnf
      refine Br.yes ?_
      conv=>whnf
      refine Cells.lit rfl rfl ?_
      conv=>whnf
      refine Br.yes ?_
      conv=>whnf
      refine Br.yes ?_
      conv=>whnf
      refine Len.map ?_
      conv=>whnf
      refine Ask.o h fun p57 h=> ?_
      conv=>whnf
      refine Elem.o (by first | omega | (simp [Ba] at * <;> omega)) ?_
      conv=>whnf
      refine Br.yes ?_
      conv=>whnf
      refine Br.yes ?_
      conv=>whnf
      refine Br.yes ?_
      conv=>whnf
      refine Br.yes ?_
      conv=>whnf
      refine Br.oe h (fun p58 h=> ?_) (fun p58 h=> ?_)
      ·conv=>whnf
       refine Br.yes ?_
       conv=>whnf
       refine CallQ.io V.bool (rP true (Aj false)) (by first | rfl | simp only [Aa,V.fz,fzL,V.up,upL,Ab,Ac,Ad,slr,List.cons_append,List.nil_append] | simp [Aa,V.fz,fzL,V.up,upL,Ab,Ac,Ad,slr]) rfl (fun _=>rfl) (fun _=>⟨rfl,rfl⟩) rfl h (fun r h=>C9 h) (fun r59 u60 h=> ?_)
       conv=>whnf
       refine Br.yes ?_
       conv=>whnf
       refine Br.yes ?_
       conv=>whnf
       cases h;exact ⟨rfl,rfl⟩
      conv=>whnf
      refine Br.no ?_
      conv=>whnf
      refine Br.no ?_
      conv=>whnf
      refine Br.no ?_
      conv=>whnf
      cases h;exact ⟨rfl,rfl⟩
     conv=>whnf
     refine Br.no ?_
     conv=>whnf
     refine Br.no ?_
     conv=>whnf
     refine Br.no ?_
     conv=>whnf
     refine Br.no ?_
     conv=>whnf
     refine Br.no ?_
     conv=>whnf
     refine Br.no ?_
     conv=>whnf
     refine Br.no ?_
     conv=>whnf
     refine Br.no ?_
     conv=>whnf
     refine Br.no ?_
     conv=>whnf
     refine Br.no ?_
     conv=>whnf
     refine Br.no ?_
     conv=>whnf
     cases h;exact ⟨rfl,rfl⟩
    conv=>whnf
    refine Br.no ?_
    conv=>whnf
    refine Br.no ?_
    conv=>whnf
    refine Br.no ?_
    conv=>whnf
    refine Br.no ?_
    conv=>whnf
    refine Br.no ?_
    conv=>whnf
    refine Br.no ?_
    conv=>whnf
    refine Br.no ?_
    conv=>whnf
    refine Br.no ?_
    conv=>whnf
    refine Br.no ?_
    conv=>whnf
    refine Br.no ?_
    conv=>whnf
    refine Br.no ?_
    conv=>whnf
    refine Br.no ?_
    conv=>whnf
    refine Br.no ?_
    conv=>whnf
    refine Br.no ?_
    conv=>whnf
    refine Br.no ?_
    conv=>whnf
    refine Br.no ?_
    conv=>whnf
    cases h;exact ⟨rfl,rfl⟩
   rintro ⟨q61_42,q61_82⟩ h
   try dsimp only at h
   conv=>whnf
   refine Br.ob h (fun p62 h=> ?_) (fun p62 h=> ?_)
   ·conv=>whnf
    refine Ask.o h fun p63 h=> ?_
    conv=>whnf
    refine CallQ.io Af (rP true (Aj false)) (by first | rfl | simp only [Aa,V.fz,fzL,V.up,upL,Ab,Ac,Ad,slr,List.cons_append,List.nil_append] | simp [Aa,V.fz,fzL,V.up,upL,Ab,Ac,Ad,slr]) rfl (fun _=>rfl) (fun _=>⟨rfl,rfl⟩) rfl h (fun r h=>Am h) (fun r64 u65 h=> ?_)
    conv=>whnf
    refine Br.oe h (fun p66 h=> ?_) (fun p66 h=> ?_)
    ·conv=>whnf
     refine BslQ.o Af ([(-1:Int)-r6,(0:Int),(1:Int)]) (by exact fun _=>⟨rfl,rfl⟩) (by first | rfl | (simp only [Aa,V.fz,fzL,V.up,upL,Ab,Ac,Ad,slr,List.cons_append,List.nil_append];done) | simp [Aa,V.fz,fzL,V.up,upL,Ab,Ac,Ad,slr]) ?_
     conv=>whnf
     refine BslQ.o Af ([(-1:Int)-r6,(1:Int),(0:Int)]) (by exact fun _=>⟨rfl,rfl⟩) (by first | rfl | (simp only [Aa,V.fz,fzL,V.up,upL,Ab,Ac,Ad,slr,List.cons_append,List.nil_append];done) | simp [Aa,V.fz,fzL,V.up,upL,Ab,Ac,Ad,slr]) ?_
     conv=>whnf
     refine SetKids.lit rfl ?_
     conv=>whnf
     cases h;exact ⟨(by first | rfl | simp only [Ah,Aa,V.fz,fzL,V.up,upL,Ab,Ac,Ad,slr] | simp [Ah,Aa,V.fz,fzL,V.up,upL,Ab,Ac,Ad,slr]),(by first | rfl | simp only [Ah,Aa,V.fz,fzL,V.up,upL,Ab,Ac,Ad,slr] | simp [Ah,Aa,V.fz,fzL,V.up,upL,Ab,Ac,Ad,slr])⟩
    conv=>whnf
    refine Br.oe h (fun p67 h=> ?_) (fun p67 h=> ?_)
    ·conv=>whnf
     refine BslQ.o Af ([(-1:Int)-r6,(-1:Int)-r6,(0:Int),(1:Int),(2:Int)]) (by exact fun _=>⟨rfl,rfl⟩) (by first | rfl | (simp only [Aa,V.fz,fzL,V.up,upL,Ab,Ac,Ad,slr,List.cons_append,List.nil_append];done) | simp [Aa,V.fz,fzL,V.up,upL,Ab,Ac,Ad,slr]) ?_
     conv=>whnf
     refine BslQ.o Af ([(-1:Int)-r6,(0:Int),(-1:Int)-r6,(1:Int),(2:Int)]) (by exact fun _=>⟨rfl,rfl⟩) (by first | rfl | (simp only [Aa,V.fz,fzL,V.up,upL,Ab,Ac,Ad,slr,List.cons_append,List.nil_append];done) | simp [Aa,V.fz,fzL,V.up,upL,Ab,Ac,Ad,slr]) ?_
     conv=>whnf
     refine SetKids.lit rfl ?_
     conv=>whnf
     cases h;exact ⟨(by first | rfl | simp only [Ah,Aa,V.fz,fzL,V.up,upL,Ab,Ac,Ad,slr] | simp [Ah,Aa,V.fz,fzL,V.up,upL,Ab,Ac,Ad,slr]),(by first | rfl | simp only [Ah,Aa,V.fz,fzL,V.up,upL,Ab,Ac,Ad,slr] | simp [Ah,Aa,V.fz,fzL,V.up,upL,Ab,Ac,Ad,slr])⟩
    conv=>whnf
    refine Br.oe h (fun p68 h=> ?_) (fun p68 h=> ?_)
    ·conv=>whnf
     refine BslQ.o Af ([(-1:Int)-r6,(0:Int),(0:Int)]) (by exact fun _=>⟨rfl,rfl⟩) (by first | rfl | (simp only [Aa,V.fz,fzL,V.up,upL,Ab,Ac,Ad,slr,List.cons_append,List.nil_append];done) | simp [Aa,V.fz,fzL,V.up,upL,Ab,Ac,Ad,slr]) ?_
     conv=>whnf
     refine BslQ.o Af ([(0:Int)]) (by exact fun _=>⟨rfl,rfl⟩) (by first | rfl | (simp only [Aa,V.fz,fzL,V.up,upL,Ab,Ac,Ad,slr,List.cons_append,List.nil_append];done) | simp [Aa,V.fz,fzL,V.up,upL,Ab,Ac,Ad,slr]) ?_
     conv=>whnf
     refine SetKids.lit rfl ?_
     conv=>whnf
     cases h;exact ⟨(by first | rfl | simp only [Ah,Aa,V.fz,fzL,V.up,upL,Ab,Ac,Ad,slr] | simp [Ah,Aa,V.fz,fzL,V.up,upL,Ab,Ac,Ad,slr]),(by first | rfl | simp only [Ah,Aa,V.fz,fzL,V.up,upL,Ab,Ac,Ad,slr] | simp [Ah,Aa,V.fz,fzL,V.up,upL,Ab,Ac,Ad,slr])⟩
    conv=>whnf
    refine Br.oe h (fun p69 h=> ?_) (fun p69 h=> ?_)
    ·conv=>whnf
     refine BslQ.o Af ([(-1:Int)-r6,(0:Int),(-1:Int)-r6,(0:Int),(1:Int)]) (by exact fun _=>⟨rfl,rfl⟩) (by first | rfl | (simp only [Aa,V.fz,fzL,V.up,upL,Ab,Ac,Ad,slr,List.cons_append,List.nil_append];done) | simp [Aa,V.fz,fzL,V.up,upL,Ab,Ac,Ad,slr]) ?_
     conv=>whnf
     refine BslQ.o Af ([(-1:Int)-r6,(0:Int),(1:Int)]) (by exact fun _=>⟨rfl,rfl⟩) (by first | rfl | (simp only [Aa,V.fz,fzL,V.up,upL,Ab,Ac,Ad,slr,List.cons_append,List.nil_append];done) | simp [Aa,V.fz,fzL,V.up,upL,Ab,Ac,Ad,slr]) ?_
     conv=>whnf
     refine SetKids.lit rfl ?_
     conv=>whnf
     cases h;exact ⟨(by first | rfl | simp only [Ah,Aa,V.fz,fzL,V.up,upL,Ab,Ac,Ad,slr] | simp [Ah,Aa,V.fz,fzL,V.up,upL,Ab,Ac,Ad,slr]),(by first | rfl | simp only [Ah,Aa,V.fz,fzL,V.up,upL,Ab,Ac,Ad,slr] | simp [Ah,Aa,V.fz,fzL,V.up,upL,Ab,Ac,Ad,slr])⟩
    conv=>whnf
    refine BslQ.o Af ([(-1:Int)-r6,(0:Int),(1:Int)]) (by exact fun _=>⟨rfl,rfl⟩) (by first | rfl | (simp only [Aa,V.fz,fzL,V.up,upL,Ab,Ac,Ad,slr,List.cons_append,List.nil_append];done) | simp [Aa,V.fz,fzL,V.up,upL,Ab,Ac,Ad,slr]) ?_
    conv=>whnf
    refine BslQ.o Af ([(0:Int)]) (by exact fun _=>⟨rfl,rfl⟩) (by first | rfl | (simp only [Aa,V.fz,fzL,V.up,upL,Ab,Ac,Ad,slr,List.cons_append,List.nil_append];done) | simp [Aa,V.fz,fzL,V.up,upL,Ab,Ac,Ad,slr]) ?_
    conv=>whnf
    refine SetKids.lit rfl ?_
    conv=>whnf
    cases h;exact ⟨(by first | rfl | simp only [Ah,Aa,V.fz,fzL,V.up,upL,Ab,Ac,Ad,slr] | simp [Ah,Aa,V.fz,fzL,V.up,upL,Ab,Ac,Ad,slr]),(by first | rfl | simp only [Ah,Aa,V.fz,fzL,V.up,upL,Ab,Ac,Ad,slr] | simp [Ah,Aa,V.fz,fzL,V.up,upL,Ab,Ac,Ad,slr])⟩
   conv=>whnf
   refine Cells.lit rfl rfl ?_
   conv=>whnf
   refine SetKids.lit rfl ?_
   conv=>whnf
   cases h;exact ⟨(by first | rfl | simp only [Ah,Aa,V.fz,fzL,V.up,upL,Ab,Ac,Ad,slr] | simp [Ah,Aa,V.fz,fzL,V.up,upL,Ab,Ac,Ad,slr]),(by first | rfl | simp only [Ah,Aa,V.fz,fzL,V.up,upL,Ab,Ac,Ad,slr] | simp [Ah,Aa,V.fz,fzL,V.up,upL,Ab,Ac,Ad,slr])⟩
  conv=>whnf
  refine SameQ.mk ⟨rfl,?_⟩
  conv=>whnf
  refine Cells.lit rfl rfl ?_
  conv=>whnf
  refine SameQ.mk ⟨rfl,?_⟩
  conv=>whnf
  refine SameQ.mk ⟨rfl,?_⟩
  conv=>whnf
  refine Cells.lit rfl rfl ?_
  conv=>whnf
  refine SameQ.mk ⟨rfl,?_⟩
  conv=>whnf
  refine CallQ.io (slr false 1 Af) (rP true (Aj false)) (by first | rfl | simp only [Aa,V.fz,fzL,V.up,upL,Ab,Ac,Ad,slr,List.cons_append,List.nil_append] | simp [Aa,V.fz,fzL,V.up,upL,Ab,Ac,Ad,slr]) rfl (fun _=>rfl) (fun _=>⟨rfl,rfl⟩) rfl (show Option.bind (B4 (u2) (a0)) some=some (r3,u4) by rw [e25];rfl) (fun r h=>Fg h) (fun b70 c71 hb=> ?_)
  obtain ⟨rfl,rfl⟩:r3=b70∧u4=c71:=by cases hb;exact ⟨rfl,rfl⟩
  conv=>whnf
  refine SetKids.lit rfl ?_
  conv=>whnf
  refine Cells.lit rfl rfl ?_
  conv=>whnf
  refine Len.map ?_
  conv=>whnf
  refine CallQ.o Af (by first | rfl | simp only [Aa,V.fz,fzL,V.up,upL,Ab,Ac,Ad,slr,List.cons_append,List.nil_append] | simp [Aa,V.fz,fzL,V.up,upL,Ab,Ac,Ad,slr]) (show Option.bind (Ea ((1:Int)) ((↑a0.Ops.length:Int))) some=some r5 by rw [e26];rfl) (fun r h=>K6 h) (fun b72 hb=> ?_)
  obtain rfl:r5=b72:=(Option.some.inj hb).symm
  conv=>whnf
  refine CallQ.io Af (rP true (Aj false)) (by first | rfl | simp only [Aa,V.fz,fzL,V.up,upL,Ab,Ac,Ad,slr,List.cons_append,List.nil_append] | simp [Aa,V.fz,fzL,V.up,upL,Ab,Ac,Ad,slr]) rfl (fun _=>rfl) (fun _=>⟨rfl,rfl⟩) rfl (show Option.bind (Al (u4) (r5)) some=some (r6,u7) by rw [e27];rfl) (fun r h=>Am h) (fun b73 c74 hb=> ?_)
  obtain ⟨rfl,rfl⟩:r6=b73∧u7=c74:=by cases hb;exact ⟨rfl,rfl⟩
  conv=>whnf
  refine CutQ.o (fun t:(Bool×Sl1Cur)=>match t with | s=>(Ex.normal,[42,6,5,4,0,82],[(42,A.val (V.bool s.1)),(6,A.val (Af (r6))),(5,A.val ((rP true (Ak false)) ({ Left:=r1,Right:=r3 }))),(4,A.val ((rP true (Ak true)) ({ Left:=A8 Int,Right:=A8 Int }))),(0,A.ref 82 []),(82,A.val ((rP true (Aj false)) s.2))])) h ?_ ?_
  ·intro t h
   conv=>whnf
   refine Cells.lit rfl rfl ?_
   conv=>whnf
   refine CallQ.o V.bool (by first | rfl | simp only [Aa,V.fz,fzL,V.up,upL,Ab,Ac,Ad,slr,List.cons_append,List.nil_append] | simp [Aa,V.fz,fzL,V.up,upL,Ab,Ac,Ad,slr]) h (fun r h=>D9 h) (fun r75 h=> ?_)
   conv=>whnf
   refine Br.ob h (fun p76 h=> ?_) (fun p76 h=> ?_)
   ·conv=>whnf
    refine Br.yes ?_
    conv=>whnf
    refine Cells.lit rfl rfl ?_
    conv=>whnf
    refine Br.yes ?_
    conv=>whnf
    refine Len.map ?_
    conv=>whnf
    refine Br.yes ?_
    conv=>whnf
    refine Br.yes ?_
    conv=>whnf
    refine Br.od h (fun p77 h=> ?_) (fun p77 h=> ?_)
    ·conv=>whnf
     refine Br.yes ?_
     conv=>whnf
     refine Cells.lit rfl rfl ?_
     conv=>whnf
     refine Br.yes ?_
     conv=>whnf
     refine Br.yes ?_
     conv=>whnf
     refine Len.map ?_
     conv=>whnf
     refine Ask.o h fun p78 h=> ?_
     conv=>whnf
     refine Elem.o (by first | omega | (simp [Ba] at * <;> omega)) ?_
     conv=>whnf
     refine Br.yes ?_
     conv=>whnf
     refine Br.yes ?_
     conv=>whnf
     refine Br.yes ?_
     conv=>whnf
     refine Br.yes ?_
     conv=>whnf
     refine Br.oe h (fun p79 h=> ?_) (fun p79 h=> ?_)
     ·conv=>whnf
      refine Br.yes ?_
      conv=>whnf
      refine CallQ.io V.bool (rP true (Aj false)) (by first | rfl | simp only [Aa,V.fz,fzL,V.up,upL,Ab,Ac,Ad,slr,List.cons_append,List.nil_append] | simp [Aa,V.fz,fzL,V.up,upL,Ab,Ac,Ad,slr]) rfl (fun _=>rfl) (fun _=>⟨rfl,rfl⟩) rfl h (fun r h=>C9 h) (fun r80 u81 h=> ?_)
      conv=>whnf
      refine Br.yes ?_
      conv=>whnf
      refine Br.yes ?_
      conv=>whnf
      cases h;exact ⟨rfl,rfl⟩
     conv=>whnf
     refine Br.no ?_
     conv=>whnf
     refine Br.no ?_
     conv=>whnf
     refine Br.no ?_
     conv=>whnf
     cases h;exact ⟨rfl,rfl⟩
    conv=>whnf
    refine Br.no ?_
    conv=>whnf
    refine Br.no ?_
    conv=>whnf
    refine Br.no ?_
    conv=>whnf
    refine Br.no ?_
    conv=>whnf
    refine Br.no ?_
    conv=>whnf
    refine Br.no ?_
    conv=>whnf
    refine Br.no ?_
    conv=>whnf
    refine Br.no ?_
    conv=>whnf
    refine Br.no ?_
    conv=>whnf
    refine Br.no ?_
    conv=>whnf
    refine Br.no ?_
    conv=>whnf
    cases h;exact ⟨rfl,rfl⟩
   conv=>whnf
   refine Br.no ?_
   conv=>whnf
   refine Br.no ?_
   conv=>whnf
   refine Br.no ?_
   conv=>whnf
   refine Br.no ?_
   conv=>whnf
   refine Br.no ?_
   conv=>whnf
   refine Br.no ?_
   conv=>whnf
   refine Br.no ?_
   conv=>whnf
   refine Br.no ?_
   conv=>whnf
   refine Br.no ?_
   conv=>whnf
   refine Br.no ?_
   conv=>whnf
   refine Br.no ?_
   conv=>whnf
   refine Br.no ?_
   conv=>whnf
   refine Br.no ?_
   conv=>whnf
   refine Br.no ?_
   conv=>whnf
   refine Br.no ?_
   conv=>whnf
   refine Br.no ?_
   conv=>whnf
   cases h;exact ⟨rfl,rfl⟩
  rintro ⟨q82_42,q82_82⟩ h
  try dsimp only at h
  conv=>whnf
  refine Br.ob h (fun p83 h=> ?_) (fun p83 h=> ?_)
  ·conv=>whnf
   refine Ask.o h fun p84 h=> ?_
   conv=>whnf
   refine CallQ.io Af (rP true (Aj false)) (by first | rfl | simp only [Aa,V.fz,fzL,V.up,upL,Ab,Ac,Ad,slr,List.cons_append,List.nil_append] | simp [Aa,V.fz,fzL,V.up,upL,Ab,Ac,Ad,slr]) rfl (fun _=>rfl) (fun _=>⟨rfl,rfl⟩) rfl h (fun r h=>Am h) (fun r85 u86 h=> ?_)
   conv=>whnf
   refine Br.oe h (fun p87 h=> ?_) (fun p87 h=> ?_)
   ·conv=>whnf
    refine BslQ.o Af ([(-1:Int)-r6,(0:Int),(1:Int)]) (by exact fun _=>⟨rfl,rfl⟩) (by first | rfl | (simp only [Aa,V.fz,fzL,V.up,upL,Ab,Ac,Ad,slr,List.cons_append,List.nil_append];done) | simp [Aa,V.fz,fzL,V.up,upL,Ab,Ac,Ad,slr]) ?_
    conv=>whnf
    refine BslQ.o Af ([(-1:Int)-r6,(1:Int),(0:Int)]) (by exact fun _=>⟨rfl,rfl⟩) (by first | rfl | (simp only [Aa,V.fz,fzL,V.up,upL,Ab,Ac,Ad,slr,List.cons_append,List.nil_append];done) | simp [Aa,V.fz,fzL,V.up,upL,Ab,Ac,Ad,slr]) ?_
    conv=>whnf
    refine SetKids.lit rfl ?_
    conv=>whnf
    cases h;exact ⟨(by first | rfl | simp only [Ah,Aa,V.fz,fzL,V.up,upL,Ab,Ac,Ad,slr] | simp [Ah,Aa,V.fz,fzL,V.up,upL,Ab,Ac,Ad,slr]),(by first | rfl | simp only [Ah,Aa,V.fz,fzL,V.up,upL,Ab,Ac,Ad,slr] | simp [Ah,Aa,V.fz,fzL,V.up,upL,Ab,Ac,Ad,slr])⟩
   conv=>whnf
   refine Br.oe h (fun p88 h=> ?_) (fun p88 h=> ?_)
   ·conv=>whnf
    refine BslQ.o Af ([(-1:Int)-r6,(-1:Int)-r6,(0:Int),(1:Int),(2:Int)]) (by exact fun _=>⟨rfl,rfl⟩) (by first | rfl | (simp only [Aa,V.fz,fzL,V.up,upL,Ab,Ac,Ad,slr,List.cons_append,List.nil_append];done) | simp [Aa,V.fz,fzL,V.up,upL,Ab,Ac,Ad,slr]) ?_
    conv=>whnf
    refine BslQ.o Af ([(-1:Int)-r6,(0:Int),(-1:Int)-r6,(1:Int),(2:Int)]) (by exact fun _=>⟨rfl,rfl⟩) (by first | rfl | (simp only [Aa,V.fz,fzL,V.up,upL,Ab,Ac,Ad,slr,List.cons_append,List.nil_append];done) | simp [Aa,V.fz,fzL,V.up,upL,Ab,Ac,Ad,slr]) ?_
    conv=>whnf
    refine SetKids.lit rfl ?_
    conv=>whnf
    cases h;exact ⟨(by first | rfl | simp only [Ah,Aa,V.fz,fzL,V.up,upL,Ab,Ac,Ad,slr] | simp [Ah,Aa,V.fz,fzL,V.up,upL,Ab,Ac,Ad,slr]),(by first | rfl | simp only [Ah,Aa,V.fz,fzL,V.up,upL,Ab,Ac,Ad,slr] | simp [Ah,Aa,V.fz,fzL,V.up,upL,Ab,Ac,Ad,slr])⟩
   conv=>whnf
   refine Br.oe h (fun p89 h=> ?_) (fun p89 h=> ?_)
   ·conv=>whnf
    refine BslQ.o Af ([(-1:Int)-r6,(0:Int),(0:Int)]) (by exact fun _=>⟨rfl,rfl⟩) (by first | rfl | (simp only [Aa,V.fz,fzL,V.up,upL,Ab,Ac,Ad,slr,List.cons_append,List.nil_append];done) | simp [Aa,V.fz,fzL,V.up,upL,Ab,Ac,Ad,slr]) ?_
    conv=>whnf
    refine BslQ.o Af ([(0:Int)]) (by exact fun _=>⟨rfl,rfl⟩) (by first | rfl | (simp only [Aa,V.fz,fzL,V.up,upL,Ab,Ac,Ad,slr,List.cons_append,List.nil_append];done) | simp [Aa,V.fz,fzL,V.up,upL,Ab,Ac,Ad,slr]) ?_
    conv=>whnf
    refine SetKids.lit rfl ?_
    conv=>whnf
    cases h;exact ⟨(by first | rfl | simp only [Ah,Aa,V.fz,fzL,V.up,upL,Ab,Ac,Ad,slr] | simp [Ah,Aa,V.fz,fzL,V.up,upL,Ab,Ac,Ad,slr]),(by first | rfl | simp only [Ah,Aa,V.fz,fzL,V.up,upL,Ab,Ac,Ad,slr] | simp [Ah,Aa,V.fz,fzL,V.up,upL,Ab,Ac,Ad,slr])⟩
   conv=>whnf
   refine Br.oe h (fun p90 h=> ?_) (fun p90 h=> ?_)
   ·conv=>whnf
    refine BslQ.o Af ([(-1:Int)-r6,(0:Int),(-1:Int)-r6,(0:Int),(1:Int)]) (by exact fun _=>⟨rfl,rfl⟩) (by first | rfl | (simp only [Aa,V.fz,fzL,V.up,upL,Ab,Ac,Ad,slr,List.cons_append,List.nil_append];done) | simp [Aa,V.fz,fzL,V.up,upL,Ab,Ac,Ad,slr]) ?_
    conv=>whnf
    refine BslQ.o Af ([(-1:Int)-r6,(0:Int),(1:Int)]) (by exact fun _=>⟨rfl,rfl⟩) (by first | rfl | (simp only [Aa,V.fz,fzL,V.up,upL,Ab,Ac,Ad,slr,List.cons_append,List.nil_append];done) | simp [Aa,V.fz,fzL,V.up,upL,Ab,Ac,Ad,slr]) ?_
    conv=>whnf
    refine SetKids.lit rfl ?_
    conv=>whnf
    cases h;exact ⟨(by first | rfl | simp only [Ah,Aa,V.fz,fzL,V.up,upL,Ab,Ac,Ad,slr] | simp [Ah,Aa,V.fz,fzL,V.up,upL,Ab,Ac,Ad,slr]),(by first | rfl | simp only [Ah,Aa,V.fz,fzL,V.up,upL,Ab,Ac,Ad,slr] | simp [Ah,Aa,V.fz,fzL,V.up,upL,Ab,Ac,Ad,slr])⟩
   conv=>whnf
   refine BslQ.o Af ([(-1:Int)-r6,(0:Int),(1:Int)]) (by exact fun _=>⟨rfl,rfl⟩) (by first | rfl | (simp only [Aa,V.fz,fzL,V.up,upL,Ab,Ac,Ad,slr,List.cons_append,List.nil_append];done) | simp [Aa,V.fz,fzL,V.up,upL,Ab,Ac,Ad,slr]) ?_
   conv=>whnf
   refine BslQ.o Af ([(0:Int)]) (by exact fun _=>⟨rfl,rfl⟩) (by first | rfl | (simp only [Aa,V.fz,fzL,V.up,upL,Ab,Ac,Ad,slr,List.cons_append,List.nil_append];done) | simp [Aa,V.fz,fzL,V.up,upL,Ab,Ac,Ad,slr]) ?_
   conv=>whnf
   refine SetKids.lit rfl ?_
   conv=>whnf
   cases h;exact ⟨(by first | rfl | simp only [Ah,Aa,V.fz,fzL,V.up,upL,Ab,Ac,Ad,slr] | simp [Ah,Aa,V.fz,fzL,V.up,upL,Ab,Ac,Ad,slr]),(by first | rfl | simp only [Ah,Aa,V.fz,fzL,V.up,upL,Ab,Ac,Ad,slr] | simp [Ah,Aa,V.fz,fzL,V.up,upL,Ab,Ac,Ad,slr])⟩
  conv=>whnf
  refine Cells.lit rfl rfl ?_
  conv=>whnf
  refine SetKids.lit rfl ?_
  conv=>whnf
  cases h;exact ⟨(by first | rfl | simp only [Ah,Aa,V.fz,fzL,V.up,upL,Ab,Ac,Ad,slr] | simp [Ah,Aa,V.fz,fzL,V.up,upL,Ab,Ac,Ad,slr]),(by first | rfl | simp only [Ah,Aa,V.fz,fzL,V.up,upL,Ab,Ac,Ad,slr] | simp [Ah,Aa,V.fz,fzL,V.up,upL,Ab,Ac,Ad,slr])⟩
 conv=>whnf
 refine SameQ.mk ⟨rfl,?_⟩
 conv=>whnf
 refine Cells.lit rfl rfl ?_
 conv=>whnf
 refine SameQ.mk ⟨rfl,?_⟩
 conv=>whnf
 refine SameQ.mk ⟨rfl,?_⟩
 conv=>whnf
 refine Cells.lit rfl rfl ?_
 conv=>whnf
 refine SameQ.mk ⟨rfl,?_⟩
 conv=>whnf
 refine SameQ.mk ⟨rfl,?_⟩
 conv=>whnf
 refine Cells.lit rfl rfl ?_
 conv=>whnf
 refine SameQ.mk ⟨rfl,?_⟩
 conv=>whnf
 refine SameQ.mk ⟨rfl,?_⟩
 conv=>whnf
 refine Cells.lit rfl rfl ?_
 conv=>whnf
 refine SameQ.mk ⟨rfl,?_⟩
 conv=>whnf
 refine CallQ.io (slr false 1 Af) (rP true (Aj false)) (by first | rfl | simp only [Aa,V.fz,fzL,V.up,upL,Ab,Ac,Ad,slr,List.cons_append,List.nil_append] | simp [Aa,V.fz,fzL,V.up,upL,Ab,Ac,Ad,slr]) rfl (fun _=>rfl) (fun _=>⟨rfl,rfl⟩) rfl (show Option.bind (B4 (c0) (a0)) some=some (r1,u2) by rw [e24];rfl) (fun r h=>Fg h) (fun b91 c92 hb=> ?_)
 obtain ⟨rfl,rfl⟩:r1=b91∧u2=c92:=by cases hb;exact ⟨rfl,rfl⟩
 conv=>whnf
 refine SameQ.mk ⟨rfl,?_⟩
 conv=>whnf
 refine Cells.lit rfl rfl ?_
 conv=>whnf
 refine SameQ.mk ⟨rfl,?_⟩
 conv=>whnf
 refine CallQ.io (slr false 1 Af) (rP true (Aj false)) (by first | rfl | simp only [Aa,V.fz,fzL,V.up,upL,Ab,Ac,Ad,slr,List.cons_append,List.nil_append] | simp [Aa,V.fz,fzL,V.up,upL,Ab,Ac,Ad,slr]) rfl (fun _=>rfl) (fun _=>⟨rfl,rfl⟩) rfl (show Option.bind (B4 (u2) (a0)) some=some (r3,u4) by rw [e25];rfl) (fun r h=>Fg h) (fun b93 c94 hb=> ?_)
 obtain ⟨rfl,rfl⟩:r3=b93∧u4=c94:=by cases hb;exact ⟨rfl,rfl⟩
 conv=>whnf
 refine SetKids.lit rfl ?_
 conv=>whnf
 refine Cells.lit rfl rfl ?_
 conv=>whnf
 refine Len.map ?_
 conv=>whnf
 refine CallQ.o Af (by first | rfl | simp only [Aa,V.fz,fzL,V.up,upL,Ab,Ac,Ad,slr,List.cons_append,List.nil_append] | simp [Aa,V.fz,fzL,V.up,upL,Ab,Ac,Ad,slr]) (show Option.bind (Ea ((1:Int)) ((↑a0.Ops.length:Int))) some=some r5 by rw [e26];rfl) (fun r h=>K6 h) (fun b95 hb=> ?_)
 obtain rfl:r5=b95:=(Option.some.inj hb).symm
 conv=>whnf
 refine CallQ.io Af (rP true (Aj false)) (by first | rfl | simp only [Aa,V.fz,fzL,V.up,upL,Ab,Ac,Ad,slr,List.cons_append,List.nil_append] | simp [Aa,V.fz,fzL,V.up,upL,Ab,Ac,Ad,slr]) rfl (fun _=>rfl) (fun _=>⟨rfl,rfl⟩) rfl (show Option.bind (Al (u4) (r5)) some=some (r6,u7) by rw [e27];rfl) (fun r h=>Am h) (fun b96 c97 hb=> ?_)
 obtain ⟨rfl,rfl⟩:r6=b96∧u7=c97:=by cases hb;exact ⟨rfl,rfl⟩
 conv=>whnf
 refine CutQ.o (fun t:(Bool×Sl1Cur)=>match t with | s=>(Ex.normal,[42,6,5,4,0,82],[(42,A.val (V.bool s.1)),(6,A.val (Af (r6))),(5,A.val ((rP true (Ak false)) ({ Left:=r1,Right:=r3 }))),(4,A.val ((rP true (Ak true)) ({ Left:=A8 Int,Right:=A8 Int }))),(0,A.ref 82 []),(82,A.val ((rP true (Aj false)) s.2))])) h ?_ ?_
 ·intro t h
  conv=>whnf
  refine Cells.lit rfl rfl ?_
  conv=>whnf
  refine CallQ.o V.bool (by first | rfl | simp only [Aa,V.fz,fzL,V.up,upL,Ab,Ac,Ad,slr,List.cons_append,List.nil_append] | simp [Aa,V.fz,fzL,V.up,upL,Ab,Ac,Ad,slr]) h (fun r h=>D9 h) (fun r98 h=> ?_)
  conv=>whnf
  refine Br.ob h (fun p99 h=> ?_) (fun p99 h=> ?_)
  ·conv=>whnf
   refine Br.yes ?_
   conv=>whnf
   refine Cells.lit rfl rfl ?_
   conv=>whnf
   refine Br.yes ?_
   conv=>whnf
   refine Len.map ?_
   conv=>whnf
   refine Br.yes ?_
   conv=>whnf
   refine Br.yes ?_
   conv=>whnf
   refine Br.od h (fun p100 h=> ?_) (fun p100 h=> ?_)
   ·conv=>whnf
    refine Br.yes ?_
    conv=>whnf
    refine Cells.lit rfl rfl ?_
    conv=>whnf
    refine Br.yes ?_
    conv=>whnf
    refine Br.yes ?_
    conv=>whnf
    refine Len.map ?_
    conv=>whnf
    refine Ask.o h fun p101 h=> ?_
    conv=>whnf
    refine Elem.o (by first | omega | (simp [Ba] at * <;> omega)) ?_
    conv=>whnf
    refine Br.yes ?_
    conv=>whnf
    refine Br.yes ?_
    conv=>whnf
    refine Br.yes ?_
    conv=>whnf
    refine Br.yes ?_
    conv=>whnf
    refine Br.oe h (fun p102 h=> ?_) (fun p102 h=> ?_)
    ·conv=>whnf
     refine Br.yes ?_
     conv=>whnf
     refine CallQ.io V.bool (rP true (Aj false)) (by first | rfl | simp only [Aa,V.fz,fzL,V.up,upL,Ab,Ac,Ad,slr,List.cons_append,List.nil_append] | simp [Aa,V.fz,fzL,V.up,upL,Ab,Ac,Ad,slr]) rfl (fun _=>rfl) (fun _=>⟨rfl,rfl⟩) rfl h (fun r h=>C9 h) (fun r103 u104 h=> ?_)
     conv=>whnf
     refine Br.yes ?_
     conv=>whnf
     refine Br.yes ?_
     conv=>whnf
     cases h;exact ⟨rfl,rfl⟩
    conv=>whnf
    refine Br.no ?_
    conv=>whnf
    refine Br.no ?_
    conv=>whnf
    refine Br.no ?_
    conv=>whnf
    cases h;exact ⟨rfl,rfl⟩
   conv=>whnf
   refine Br.no ?_
   conv=>whnf
   refine Br.no ?_
   conv=>whnf
   refine Br.no ?_
   conv=>whnf
   refine Br.no ?_
   conv=>whnf
   refine Br.no ?_
   conv=>whnf
   refine Br.no ?_
   conv=>whnf
   refine Br.no ?_
   conv=>whnf
   refine Br.no ?_
   conv=>whnf
   refine Br.no ?_
   conv=>whnf
   refine Br.no ?_
   conv=>whnf
   refine Br.no ?_
   conv=>whnf
   cases h;exact ⟨rfl,rfl⟩
  conv=>whnf
  refine Br.no ?_
  conv=>whnf
  refine Br.no ?_
  conv=>whnf
  refine Br.no ?_
  conv=>whnf
  refine Br.no ?_
  conv=>whnf
  refine Br.no ?_
  conv=>whnf
  refine Br.no ?_
  conv=>whnf
  refine Br.no ?_
  conv=>whnf
  refine Br.no ?_
  conv=>whnf
  refine Br.no ?_
  conv=>whnf
  refine Br.no ?_
  conv=>whnf
  refine Br.no ?_
  conv=>whnf
  refine Br.no ?_
  conv=>whnf
  refine Br.no ?_
  conv=>whnf
  refine Br.no ?_
  conv=>whnf
  refine Br.no ?_
  conv=>whnf
  refine Br.no ?_
  conv=>whnf
  cases h;exact ⟨rfl,rfl⟩
 rintro ⟨q105_42,q105_82⟩ h
 try dsimp only at h
 conv=>whnf
 refine Br.ob h (fun p106 h=> ?_) (fun p106 h=> ?_)
 ·conv=>whnf
  refine Ask.o h fun p107 h=> ?_
  conv=>whnf
  refine CallQ.io Af (rP true (Aj false)) (by first | rfl | simp only [Aa,V.fz,fzL,V.up,upL,Ab,Ac,Ad,slr,List.cons_append,List.nil_append] | simp [Aa,V.fz,fzL,V.up,upL,Ab,Ac,Ad,slr]) rfl (fun _=>rfl) (fun _=>⟨rfl,rfl⟩) rfl h (fun r h=>Am h) (fun r108 u109 h=> ?_)
  conv=>whnf
  refine Br.oe h (fun p110 h=> ?_) (fun p110 h=> ?_)
  ·conv=>whnf
   refine BslQ.o Af ([(-1:Int)-r6,(0:Int),(1:Int)]) (by exact fun _=>⟨rfl,rfl⟩) (by first | rfl | (simp only [Aa,V.fz,fzL,V.up,upL,Ab,Ac,Ad,slr,List.cons_append,List.nil_append];done) | simp [Aa,V.fz,fzL,V.up,upL,Ab,Ac,Ad,slr]) ?_
   conv=>whnf
   refine BslQ.o Af ([(-1:Int)-r6,(1:Int),(0:Int)]) (by exact fun _=>⟨rfl,rfl⟩) (by first | rfl | (simp only [Aa,V.fz,fzL,V.up,upL,Ab,Ac,Ad,slr,List.cons_append,List.nil_append];done) | simp [Aa,V.fz,fzL,V.up,upL,Ab,Ac,Ad,slr]) ?_
   conv=>whnf
   refine SetKids.lit rfl ?_
   conv=>whnf
   cases h;exact ⟨(by first | rfl | simp only [Ah,Aa,V.fz,fzL,V.up,upL,Ab,Ac,Ad,slr] | simp [Ah,Aa,V.fz,fzL,V.up,upL,Ab,Ac,Ad,slr]),(by first | rfl | simp only [Ah,Aa,V.fz,fzL,V.up,upL,Ab,Ac,Ad,slr] | simp [Ah,Aa,V.fz,fzL,V.up,upL,Ab,Ac,Ad,slr])⟩
  conv=>whnf
  refine Br.oe h (fun p111 h=> ?_) (fun p111 h=> ?_)
  ·conv=>whnf
   refine BslQ.o Af ([(-1:Int)-r6,(-1:Int)-r6,(0:Int),(1:Int),(2:Int)]) (by exact fun _=>⟨rfl,rfl⟩) (by first | rfl | (simp only [Aa,V.fz,fzL,V.up,upL,Ab,Ac,Ad,slr,List.cons_append,List.nil_append];done) | simp [Aa,V.fz,fzL,V.up,upL,Ab,Ac,Ad,slr]) ?_
   conv=>whnf
   refine BslQ.o Af ([(-1:Int)-r6,(0:Int),(-1:Int)-r6,(1:Int),(2:Int)]) (by exact fun _=>⟨rfl,rfl⟩) (by first | rfl | (simp only [Aa,V.fz,fzL,V.up,upL,Ab,Ac,Ad,slr,List.cons_append,List.nil_append];done) | simp [Aa,V.fz,fzL,V.up,upL,Ab,Ac,Ad,slr]) ?_
   conv=>whnf
   refine SetKids.lit rfl ?_
   conv=>whnf
   cases h;exact ⟨(by first | rfl | simp only [Ah,Aa,V.fz,fzL,V.up,upL,Ab,Ac,Ad,slr] | simp [Ah,Aa,V.fz,fzL,V.up,upL,Ab,Ac,Ad,slr]),(by first | rfl | simp only [Ah,Aa,V.fz,fzL,V.up,upL,Ab,Ac,Ad,slr] | simp [Ah,Aa,V.fz,fzL,V.up,upL,Ab,Ac,Ad,slr])⟩
  conv=>whnf
  refine Br.oe h (fun p112 h=> ?_) (fun p112 h=> ?_)
  ·conv=>whnf
   refine BslQ.o Af ([(-1:Int)-r6,(0:Int),(0:Int)]) (by exact fun _=>⟨rfl,rfl⟩) (by first | rfl | (simp only [Aa,V.fz,fzL,V.up,upL,Ab,Ac,Ad,slr,List.cons_append,List.nil_append];done) | simp [Aa,V.fz,fzL,V.up,upL,Ab,Ac,Ad,slr]) ?_
   conv=>whnf
   refine BslQ.o Af ([(0:Int)]) (by exact fun _=>⟨rfl,rfl⟩) (by first | rfl | (simp only [Aa,V.fz,fzL,V.up,upL,Ab,Ac,Ad,slr,List.cons_append,List.nil_append];done) | simp [Aa,V.fz,fzL,V.up,upL,Ab,Ac,Ad,slr]) ?_
   conv=>whnf
   refine SetKids.lit rfl ?_
   conv=>whnf
   cases h;exact ⟨(by first | rfl | simp only [Ah,Aa,V.fz,fzL,V.up,upL,Ab,Ac,Ad,slr] | simp [Ah,Aa,V.fz,fzL,V.up,upL,Ab,Ac,Ad,slr]),(by first | rfl | simp only [Ah,Aa,V.fz,fzL,V.up,upL,Ab,Ac,Ad,slr] | simp [Ah,Aa,V.fz,fzL,V.up,upL,Ab,Ac,Ad,slr])⟩
  conv=>whnf
  refine Br.oe h (fun p113 h=> ?_) (fun p113 h=> ?_)
  ·conv=>whnf
   refine BslQ.o Af ([(-1:Int)-r6,(0:Int),(-1:Int)-r6,(0:Int),(1:Int)]) (by exact fun _=>⟨rfl,rfl⟩) (by first | rfl | (simp only [Aa,V.fz,fzL,V.up,upL,Ab,Ac,Ad,slr,List.cons_append,List.nil_append];done) | simp [Aa,V.fz,fzL,V.up,upL,Ab,Ac,Ad,slr]) ?_
   conv=>whnf
   refine BslQ.o Af ([(-1:Int)-r6,(0:Int),(1:Int)]) (by exact fun _=>⟨rfl,rfl⟩) (by first | rfl | (simp only [Aa,V.fz,fzL,V.up,upL,Ab,Ac,Ad,slr,List.cons_append,List.nil_append];done) | simp [Aa,V.fz,fzL,V.up,upL,Ab,Ac,Ad,slr]) ?_
   conv=>whnf
   refine SetKids.lit rfl ?_
   conv=>whnf
   cases h;exact ⟨(by first | rfl | simp only [Ah,Aa,V.fz,fzL,V.up,upL,Ab,Ac,Ad,slr] | simp [Ah,Aa,V.fz,fzL,V.up,upL,Ab,Ac,Ad,slr]),(by first | rfl | simp only [Ah,Aa,V.fz,fzL,V.up,upL,Ab,Ac,Ad,slr] | simp [Ah,Aa,V.fz,fzL,V.up,upL,Ab,Ac,Ad,slr])⟩
  conv=>whnf
  refine BslQ.o Af ([(-1:Int)-r6,(0:Int),(1:Int)]) (by exact fun _=>⟨rfl,rfl⟩) (by first | rfl | (simp only [Aa,V.fz,fzL,V.up,upL,Ab,Ac,Ad,slr,List.cons_append,List.nil_append];done) | simp [Aa,V.fz,fzL,V.up,upL,Ab,Ac,Ad,slr]) ?_
  conv=>whnf
  refine BslQ.o Af ([(0:Int)]) (by exact fun _=>⟨rfl,rfl⟩) (by first | rfl | (simp only [Aa,V.fz,fzL,V.up,upL,Ab,Ac,Ad,slr,List.cons_append,List.nil_append];done) | simp [Aa,V.fz,fzL,V.up,upL,Ab,Ac,Ad,slr]) ?_
  conv=>whnf
  refine SetKids.lit rfl ?_
  conv=>whnf
  cases h;exact ⟨(by first | rfl | simp only [Ah,Aa,V.fz,fzL,V.up,upL,Ab,Ac,Ad,slr] | simp [Ah,Aa,V.fz,fzL,V.up,upL,Ab,Ac,Ad,slr]),(by first | rfl | simp only [Ah,Aa,V.fz,fzL,V.up,upL,Ab,Ac,Ad,slr] | simp [Ah,Aa,V.fz,fzL,V.up,upL,Ab,Ac,Ad,slr])⟩
 conv=>whnf
 refine Cells.lit rfl rfl ?_
 conv=>whnf
 refine SetKids.lit rfl ?_
 conv=>whnf
 cases h;exact ⟨(by first | rfl | simp only [Ah,Aa,V.fz,fzL,V.up,upL,Ab,Ac,Ad,slr] | simp [Ah,Aa,V.fz,fzL,V.up,upL,Ab,Ac,Ad,slr]),(by first | rfl | simp only [Ah,Aa,V.fz,fzL,V.up,upL,Ab,Ac,Ad,slr] | simp [Ah,Aa,V.fz,fzL,V.up,upL,Ab,Ac,Ad,slr])⟩
end Go.Proofs.Ytmcbocbcpijgeaa.Ax
