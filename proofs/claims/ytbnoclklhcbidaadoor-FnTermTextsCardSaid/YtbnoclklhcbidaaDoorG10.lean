/-
 What the functions compute, as functions on plain data, and that the program does compute it; written by program.
-/
import Derived.Test.YtbnoclklhcbidaaDoorCode
import Derived.Test.YtbnoclklhcbidaaDoorG4
import Derived.Test.YtbnoclklhcbidaaDoorG5
import Derived.Test.YtbnoclklhcbidaaDoorG6
import Derived.Test.YtbnoclklhcbidaaDoorG8
namespace Go.Proofs.YtbnoclklhcbidaaDoor.Ax
open Go
set_option maxRecDepth 100000
set_option maxHeartbeats 4000000
noncomputable def Bz (c0:Sl1Cur) (a0:SAlgebra):Option ((List Int)×Sl1Cur):=
 (G2 (a0)).bind fun r1=>
 if (r1)=true then
 (((Am (c0) ((3:Int))).bind fun (r3,u4)=>
 ask (InI ((1:Int)+r3)) <|
 (Al (u4) ([(1:Int),(2:Int),(3:Int),(3:Int),(6:Int)])).bind fun (r6,u7)=>
 (Li fun n=>A5 n (u7) (a0) ((1:Int)+r3) (r6)).bind fun (r8,u9)=>
 some (r8,u9):Option ((List Int)×Sl1Cur))).bind fun (q38_5,q38_46)=>
 (Am (q38_46) ((32:Int))).bind fun (r39,u40)=>
 if r39=(0:Int) then
 ask ((q38_5).length+([(0:Int)]).length≤LIM) <|
 some (q38_5++[(0:Int)],u40)
 else
 if r39=(1:Int) then
 (Am (u40) ((↑q38_5.length:Int))).bind fun (r43,u44)=>
 ask (InI ((-1:Int)-(↑a0.Ops.length:Int))) <|
 (Al (u44) ([(-1:Int)-(↑a0.Ops.length:Int),(6:Int),(-9223372036854775808:Int),(9223372036854775807:Int)])).bind fun (r46,u47)=>
 ask ((0:Int)≤r43∧r43<(↑q38_5.length:Int)) <|
 some (q38_5.set r43.toNat r46,u47)
 else
 if r39=(2:Int) then
 ask (0≤(1:Int)∧(1:Int)≤(↑q38_5.length:Int)∧(↑q38_5.length:Int)≤((q38_5.length:Nat):Int)) <|
 some (List.take ((↑q38_5.length:Int).toNat-Int.toNat (1:Int)) (List.drop (Int.toNat (1:Int)) q38_5),u40)
 else
 some (q38_5,u40)
 else
 some ([(0:Int)],c0)
theorem Dj {c0:Sl1Cur} {a0:SAlgebra} {v:((List Int)×Sl1Cur)} (h:Bz c0 a0=some v):Iq Tryd.prog Cm [(rP true (Aj false)) c0,(Ag false) a0] ((slr false 1 Af) v.1) 0 ((rP true (Aj false)) v.2):=by
 refine App X0 (Nat.le_of_ble_eq_true rfl) ?_
 unfold Bz at h
 conv=>whnf
 refine Cells.lit rfl rfl ?_
 conv=>whnf
 refine CallQ.o V.bool (by first | rfl | simp only [Aa,V.fz,fzL,V.up,upL,Ab,Ac,Ad,slr,List.cons_append,List.nil_append] | simp [Aa,V.fz,fzL,V.up,upL,Ab,Ac,Ad,slr]) h (fun r h=>V8 h) (fun r1 h=> ?_)
 conv=>whnf
 refine Br.flip ?_
 conv=>whnf
 refine Br.ob h (fun p2 h=> ?_) (fun p2 h=> ?_)
 ·conv=>whnf
  refine CutQ.o (fun t:((List Int)×Sl1Cur)=>match t with | s=>(Ex.normal,[5,3,0,46],[(5,A.val ((slr true 1 Af) s.1)),(3,A.val ((rP true (Ag false)) (a0))),(0,A.ref 46 []),(46,A.val ((rP true (Aj false)) s.2))])) h ?_ ?_
  ·intro t h
   conv=>whnf
   refine Cells.lit rfl rfl ?_
   conv=>whnf
   obtain ⟨⟨r3,u4⟩,e10,h⟩:=Option.bind_eq_some_iff.1 h
   try dsimp only at h
   obtain ⟨p11,h⟩:=Fd.1 h
   obtain ⟨⟨r6,u7⟩,e12,h⟩:=Option.bind_eq_some_iff.1 h
   try dsimp only at h
   obtain ⟨⟨r8,u9⟩,e13,h⟩:=Option.bind_eq_some_iff.1 h
   try dsimp only at h
   refine Two.mk ⟨?_,?_⟩
   ·conv=>whnf
    refine SameQ.mk ⟨rfl,?_⟩
    conv=>whnf
    refine Cells.lit rfl rfl ?_
    conv=>whnf
    refine SameQ.mk ⟨rfl,?_⟩
    conv=>whnf
    refine SameQ.mk ⟨rfl,?_⟩
    conv=>whnf
    refine SameQ.mk ⟨rfl,?_⟩
    conv=>whnf
    refine CallQ.io Af (rP true (Aj false)) (by first | rfl | simp only [Aa,V.fz,fzL,V.up,upL,Ab,Ac,Ad,slr,List.cons_append,List.nil_append] | simp [Aa,V.fz,fzL,V.up,upL,Ab,Ac,Ad,slr]) rfl (fun _=>rfl) (fun _=>⟨rfl,rfl⟩) rfl (show Option.bind (Am (c0) ((3:Int))) some=some (r3,u4) by rw [e10];rfl) (fun r h=>Ar h) (fun b14 c15 hb=> ?_)
    obtain ⟨rfl,rfl⟩:r3=b14∧u4=c15:=by cases hb;exact ⟨rfl,rfl⟩
    conv=>whnf
    refine Two.mk ⟨?_,?_⟩
    ·conv=>whnf
     refine SameQ.mk ⟨rfl,?_⟩
     conv=>whnf
     refine Cells.lit rfl rfl ?_
     conv=>whnf
     refine SameQ.mk ⟨rfl,?_⟩
     conv=>whnf
     refine SameQ.mk ⟨rfl,?_⟩
     conv=>whnf
     refine Ask.mk p11 ?_
     conv=>whnf
     refine SameQ.mk ⟨rfl,?_⟩
     conv=>whnf
     refine Cells.lit rfl rfl ?_
     conv=>whnf
     refine SameQ.mk ⟨rfl,?_⟩
     conv=>whnf
     refine SameQ.mk ⟨rfl,?_⟩
     conv=>whnf
     refine BslQ.o Af ([(1:Int),(2:Int),(3:Int),(3:Int),(6:Int)]) (by exact fun _=>⟨rfl,rfl⟩) (by first | rfl | (simp only [Aa,V.fz,fzL,V.up,upL,Ab,Ac,Ad,slr,List.cons_append,List.nil_append];done) | simp [Aa,V.fz,fzL,V.up,upL,Ab,Ac,Ad,slr]) ?_
     conv=>whnf
     refine SameQ.mk ⟨rfl,?_⟩
     conv=>whnf
     refine Cells.lit rfl rfl ?_
     conv=>whnf
     refine SameQ.mk ⟨rfl,?_⟩
     conv=>whnf
     refine SameQ.mk ⟨rfl,?_⟩
     conv=>whnf
     refine CallQ.io Af (rP true (Aj false)) (by first | rfl | (simp only [Aa,Ak,V.fz,fzL,Ab,Ac,slr];done) | simp [Aa,Ak,V.fz,fzL,V.up,upL,Ab,Ac,Ad,slr]) rfl (fun _=>rfl) (fun _=>⟨rfl,rfl⟩) rfl (show Option.bind (Al (u4) ([(1:Int),(2:Int),(3:Int),(3:Int),(6:Int)])) some=some (r6,u7) by rw [e12];rfl) (fun r h=>As h) (fun b16 c17 hb=> ?_)
     obtain ⟨rfl,rfl⟩:r6=b16∧u7=c17:=by cases hb;exact ⟨rfl,rfl⟩
     conv=>whnf
     refine SameQ.mk ⟨rfl,?_⟩
     conv=>whnf
     refine Cells.lit rfl rfl ?_
     conv=>whnf
     refine SameQ.mk ⟨rfl,?_⟩
     conv=>whnf
     refine CallQ.io (slr true 1 Af) (rP true (Aj false)) (by first | rfl | simp only [Aa,V.fz,fzL,V.up,upL,Ab,Ac,Ad,slr,List.cons_append,List.nil_append] | simp [Aa,V.fz,fzL,V.up,upL,Ab,Ac,Ad,slr]) rfl (fun _=>rfl) (fun _=>⟨rfl,rfl⟩) rfl (show Option.bind (Li fun n=>A5 n (u7) (a0) ((1:Int)+r3) (r6)) some=some (r8,u9) by rw [e13];rfl) (fun r h=>Eo h) (fun b18 c19 hb=> ?_)
     obtain ⟨rfl,rfl⟩:r8=b18∧u9=c19:=by cases hb;exact ⟨rfl,rfl⟩
     conv=>whnf
     cases h;exact ⟨rfl,rfl⟩
    conv=>whnf
    refine SameQ.mk ⟨rfl,?_⟩
    conv=>whnf
    refine Cells.lit rfl rfl ?_
    conv=>whnf
    refine SameQ.mk ⟨rfl,?_⟩
    conv=>whnf
    refine SameQ.mk ⟨rfl,?_⟩
    conv=>whnf
    refine BslQ.o Af ([(1:Int),(2:Int),(3:Int),(3:Int),(6:Int)]) (by exact fun _=>⟨rfl,rfl⟩) (by first | rfl | (simp only [Aa,V.fz,fzL,V.up,upL,Ab,Ac,Ad,slr,List.cons_append,List.nil_append];done) | simp [Aa,V.fz,fzL,V.up,upL,Ab,Ac,Ad,slr]) ?_
    conv=>whnf
    refine Two.mk ⟨?_,?_⟩
    ·conv=>whnf
     refine SameQ.mk ⟨rfl,?_⟩
     conv=>whnf
     refine Cells.lit rfl rfl ?_
     conv=>whnf
     refine SameQ.mk ⟨rfl,?_⟩
     conv=>whnf
     refine SameQ.mk ⟨rfl,?_⟩
     conv=>whnf
     refine Ask.mk p11 ?_
     conv=>whnf
     refine SameQ.mk ⟨rfl,?_⟩
     conv=>whnf
     refine Cells.lit rfl rfl ?_
     conv=>whnf
     refine SameQ.mk ⟨rfl,?_⟩
     conv=>whnf
     refine SameQ.mk ⟨rfl,?_⟩
     conv=>whnf
     refine CallQ.io Af (rP true (Aj false)) (by first | rfl | (simp only [Aa,Ak,V.fz,fzL,Ab,Ac,slr];done) | simp [Aa,Ak,V.fz,fzL,V.up,upL,Ab,Ac,Ad,slr]) rfl (fun _=>rfl) (fun _=>⟨rfl,rfl⟩) rfl (show Option.bind (Al (u4) ([(1:Int),(2:Int),(3:Int),(3:Int),(6:Int)])) some=some (r6,u7) by rw [e12];rfl) (fun r h=>As h) (fun b20 c21 hb=> ?_)
     obtain ⟨rfl,rfl⟩:r6=b20∧u7=c21:=by cases hb;exact ⟨rfl,rfl⟩
     conv=>whnf
     refine SameQ.mk ⟨rfl,?_⟩
     conv=>whnf
     refine Cells.lit rfl rfl ?_
     conv=>whnf
     refine SameQ.mk ⟨rfl,?_⟩
     conv=>whnf
     refine CallQ.io (slr true 1 Af) (rP true (Aj false)) (by first | rfl | simp only [Aa,V.fz,fzL,V.up,upL,Ab,Ac,Ad,slr,List.cons_append,List.nil_append] | simp [Aa,V.fz,fzL,V.up,upL,Ab,Ac,Ad,slr]) rfl (fun _=>rfl) (fun _=>⟨rfl,rfl⟩) rfl (show Option.bind (Li fun n=>A5 n (u7) (a0) ((1:Int)+r3) (r6)) some=some (r8,u9) by rw [e13];rfl) (fun r h=>Eo h) (fun b22 c23 hb=> ?_)
     obtain ⟨rfl,rfl⟩:r8=b22∧u9=c23:=by cases hb;exact ⟨rfl,rfl⟩
     conv=>whnf
     cases h;exact ⟨rfl,rfl⟩
    conv=>whnf
    refine SameQ.mk ⟨rfl,?_⟩
    conv=>whnf
    refine Cells.lit rfl rfl ?_
    conv=>whnf
    refine SameQ.mk ⟨rfl,?_⟩
    conv=>whnf
    refine SameQ.mk ⟨rfl,?_⟩
    conv=>whnf
    refine CallQ.io Af (rP true (Aj false)) (by first | rfl | (simp only [Aa,Ak,V.fz,fzL,Ab,Ac,slr];done) | simp [Aa,Ak,V.fz,fzL,V.up,upL,Ab,Ac,Ad,slr]) rfl (fun _=>rfl) (fun _=>⟨rfl,rfl⟩) rfl (show Option.bind (Al (u4) ([(1:Int),(2:Int),(3:Int),(3:Int),(6:Int)])) some=some (r6,u7) by rw [e12];rfl) (fun r h=>As h) (fun b24 c25 hb=> ?_)
    obtain ⟨rfl,rfl⟩:r6=b24∧u7=c25:=by cases hb;exact ⟨rfl,rfl⟩
    conv=>whnf
    refine SameQ.mk ⟨rfl,?_⟩
    conv=>whnf
    refine Cells.lit rfl rfl ?_
    conv=>whnf
    refine SameQ.mk ⟨rfl,?_⟩
    conv=>whnf
    refine Ask.mk p11 ?_
    conv=>whnf
    refine SameQ.mk ⟨rfl,?_⟩
    conv=>whnf
    refine Cells.lit rfl rfl ?_
    conv=>whnf
    refine SameQ.mk ⟨rfl,?_⟩
    conv=>whnf
    refine CallQ.io (slr true 1 Af) (rP true (Aj false)) (by first | rfl | simp only [Aa,V.fz,fzL,V.up,upL,Ab,Ac,Ad,slr,List.cons_append,List.nil_append] | simp [Aa,V.fz,fzL,V.up,upL,Ab,Ac,Ad,slr]) rfl (fun _=>rfl) (fun _=>⟨rfl,rfl⟩) rfl (show Option.bind (Li fun n=>A5 n (u7) (a0) ((1:Int)+r3) (r6)) some=some (r8,u9) by rw [e13];rfl) (fun r h=>Eo h) (fun b26 c27 hb=> ?_)
    obtain ⟨rfl,rfl⟩:r8=b26∧u9=c27:=by cases hb;exact ⟨rfl,rfl⟩
    conv=>whnf
    cases h;exact ⟨rfl,rfl⟩
   conv=>whnf
   refine SameQ.mk ⟨rfl,?_⟩
   conv=>whnf
   refine Cells.lit rfl rfl ?_
   conv=>whnf
   refine SameQ.mk ⟨rfl,?_⟩
   conv=>whnf
   refine SameQ.mk ⟨rfl,?_⟩
   conv=>whnf
   refine SameQ.mk ⟨rfl,?_⟩
   conv=>whnf
   refine BslQ.o Af ([(1:Int),(2:Int),(3:Int),(3:Int),(6:Int)]) (by exact fun _=>⟨rfl,rfl⟩) (by first | rfl | (simp only [Aa,V.fz,fzL,V.up,upL,Ab,Ac,Ad,slr,List.cons_append,List.nil_append];done) | simp [Aa,V.fz,fzL,V.up,upL,Ab,Ac,Ad,slr]) ?_
   conv=>whnf
   refine SameQ.mk ⟨rfl,?_⟩
   conv=>whnf
   refine Cells.lit rfl rfl ?_
   conv=>whnf
   refine SameQ.mk ⟨rfl,?_⟩
   conv=>whnf
   refine SameQ.mk ⟨rfl,?_⟩
   conv=>whnf
   refine SameQ.mk ⟨rfl,?_⟩
   conv=>whnf
   refine CallQ.io Af (rP true (Aj false)) (by first | rfl | simp only [Aa,V.fz,fzL,V.up,upL,Ab,Ac,Ad,slr,List.cons_append,List.nil_append] | simp [Aa,V.fz,fzL,V.up,upL,Ab,Ac,Ad,slr]) rfl (fun _=>rfl) (fun _=>⟨rfl,rfl⟩) rfl (show Option.bind (Am (c0) ((3:Int))) some=some (r3,u4) by rw [e10];rfl) (fun r h=>Ar h) (fun b28 c29 hb=> ?_)
   obtain ⟨rfl,rfl⟩:r3=b28∧u4=c29:=by cases hb;exact ⟨rfl,rfl⟩
   conv=>whnf
   refine Two.mk ⟨?_,?_⟩
   ·conv=>whnf
    refine SameQ.mk ⟨rfl,?_⟩
    conv=>whnf
    refine Cells.lit rfl rfl ?_
    conv=>whnf
    refine SameQ.mk ⟨rfl,?_⟩
    conv=>whnf
    refine SameQ.mk ⟨rfl,?_⟩
    conv=>whnf
    refine Ask.mk p11 ?_
    conv=>whnf
    refine SameQ.mk ⟨rfl,?_⟩
    conv=>whnf
    refine Cells.lit rfl rfl ?_
    conv=>whnf
    refine SameQ.mk ⟨rfl,?_⟩
    conv=>whnf
    refine SameQ.mk ⟨rfl,?_⟩
    conv=>whnf
    refine CallQ.io Af (rP true (Aj false)) (by first | rfl | (simp only [Aa,Ak,V.fz,fzL,Ab,Ac,slr];done) | simp [Aa,Ak,V.fz,fzL,V.up,upL,Ab,Ac,Ad,slr]) rfl (fun _=>rfl) (fun _=>⟨rfl,rfl⟩) rfl (show Option.bind (Al (u4) ([(1:Int),(2:Int),(3:Int),(3:Int),(6:Int)])) some=some (r6,u7) by rw [e12];rfl) (fun r h=>As h) (fun b30 c31 hb=> ?_)
    obtain ⟨rfl,rfl⟩:r6=b30∧u7=c31:=by cases hb;exact ⟨rfl,rfl⟩
    conv=>whnf
    refine SameQ.mk ⟨rfl,?_⟩
    conv=>whnf
    refine Cells.lit rfl rfl ?_
    conv=>whnf
    refine SameQ.mk ⟨rfl,?_⟩
    conv=>whnf
    refine CallQ.io (slr true 1 Af) (rP true (Aj false)) (by first | rfl | simp only [Aa,V.fz,fzL,V.up,upL,Ab,Ac,Ad,slr,List.cons_append,List.nil_append] | simp [Aa,V.fz,fzL,V.up,upL,Ab,Ac,Ad,slr]) rfl (fun _=>rfl) (fun _=>⟨rfl,rfl⟩) rfl (show Option.bind (Li fun n=>A5 n (u7) (a0) ((1:Int)+r3) (r6)) some=some (r8,u9) by rw [e13];rfl) (fun r h=>Eo h) (fun b32 c33 hb=> ?_)
    obtain ⟨rfl,rfl⟩:r8=b32∧u9=c33:=by cases hb;exact ⟨rfl,rfl⟩
    conv=>whnf
    cases h;exact ⟨rfl,rfl⟩
   conv=>whnf
   refine SameQ.mk ⟨rfl,?_⟩
   conv=>whnf
   refine Cells.lit rfl rfl ?_
   conv=>whnf
   refine SameQ.mk ⟨rfl,?_⟩
   conv=>whnf
   refine SameQ.mk ⟨rfl,?_⟩
   conv=>whnf
   refine CallQ.io Af (rP true (Aj false)) (by first | rfl | (simp only [Aa,Ak,V.fz,fzL,Ab,Ac,slr];done) | simp [Aa,Ak,V.fz,fzL,V.up,upL,Ab,Ac,Ad,slr]) rfl (fun _=>rfl) (fun _=>⟨rfl,rfl⟩) rfl (show Option.bind (Al (u4) ([(1:Int),(2:Int),(3:Int),(3:Int),(6:Int)])) some=some (r6,u7) by rw [e12];rfl) (fun r h=>As h) (fun b34 c35 hb=> ?_)
   obtain ⟨rfl,rfl⟩:r6=b34∧u7=c35:=by cases hb;exact ⟨rfl,rfl⟩
   conv=>whnf
   refine SameQ.mk ⟨rfl,?_⟩
   conv=>whnf
   refine Cells.lit rfl rfl ?_
   conv=>whnf
   refine SameQ.mk ⟨rfl,?_⟩
   conv=>whnf
   refine Ask.mk p11 ?_
   conv=>whnf
   refine SameQ.mk ⟨rfl,?_⟩
   conv=>whnf
   refine Cells.lit rfl rfl ?_
   conv=>whnf
   refine SameQ.mk ⟨rfl,?_⟩
   conv=>whnf
   refine CallQ.io (slr true 1 Af) (rP true (Aj false)) (by first | rfl | simp only [Aa,V.fz,fzL,V.up,upL,Ab,Ac,Ad,slr,List.cons_append,List.nil_append] | simp [Aa,V.fz,fzL,V.up,upL,Ab,Ac,Ad,slr]) rfl (fun _=>rfl) (fun _=>⟨rfl,rfl⟩) rfl (show Option.bind (Li fun n=>A5 n (u7) (a0) ((1:Int)+r3) (r6)) some=some (r8,u9) by rw [e13];rfl) (fun r h=>Eo h) (fun b36 c37 hb=> ?_)
   obtain ⟨rfl,rfl⟩:r8=b36∧u9=c37:=by cases hb;exact ⟨rfl,rfl⟩
   conv=>whnf
   cases h;exact ⟨rfl,rfl⟩
  rintro ⟨q38_5,q38_46⟩ h
  try dsimp only at h
  conv=>whnf
  refine CallQ.io Af (rP true (Aj false)) (by first | rfl | simp only [Aa,V.fz,fzL,V.up,upL,Ab,Ac,Ad,slr,List.cons_append,List.nil_append] | simp [Aa,V.fz,fzL,V.up,upL,Ab,Ac,Ad,slr]) rfl (fun _=>rfl) (fun _=>⟨rfl,rfl⟩) rfl h (fun r h=>Ar h) (fun r39 u40 h=> ?_)
  conv=>whnf
  refine Br.oe h (fun p41 h=> ?_) (fun p41 h=> ?_)
  ·conv=>whnf
   refine BslQ.o Af ([(0:Int)]) (by exact fun _=>⟨rfl,rfl⟩) (by first | rfl | (simp only [Aa,V.fz,fzL,V.up,upL,Ab,Ac,Ad,slr,List.cons_append,List.nil_append];done) | simp [Aa,V.fz,fzL,V.up,upL,Ab,Ac,Ad,slr]) ?_
   conv=>whnf
   refine NoOwn.o (fun _=>rfl) ?_
   conv=>whnf
   refine AppQ.o (m:=1) Af (by exact fun _=>⟨rfl,rfl⟩) (q38_5) ([(0:Int)]) (by first | rfl | simp only [Aa,V.fz,fzL,V.up,upL,Ab,Ac,Ad,slr,List.cons_append,List.nil_append] | simp [Aa,V.fz,fzL,V.up,upL,Ab,Ac,Ad,slr]) (by first | rfl | simp only [Aa,V.fz,fzL,V.up,upL,Ab,Ac,Ad,slr,List.cons_append,List.nil_append] | simp [Aa,V.fz,fzL,V.up,upL,Ab,Ac,Ad,slr]) h fun h=> ?_
   conv=>whnf
   cases h;exact ⟨(by first | rfl | simp only [Ah,Ac,slr] | simp [Ah,Aa,V.fz,fzL,V.up,upL,Ab,Ac,Ad,slr]),(by first | rfl | simp only [Ah,Aa,V.fz,fzL,V.up,upL,Ab,Ac,Ad,slr] | simp [Ah,Aa,V.fz,fzL,V.up,upL,Ab,Ac,Ad,slr])⟩
  conv=>whnf
  refine Br.oe h (fun p42 h=> ?_) (fun p42 h=> ?_)
  ·conv=>whnf
   refine Cells.lit rfl rfl ?_
   conv=>whnf
   obtain ⟨⟨r43,u44⟩,e49,h⟩:=Option.bind_eq_some_iff.1 h
   try dsimp only at h
   obtain ⟨p50,h⟩:=Fd.1 h
   obtain ⟨⟨r46,u47⟩,e51,h⟩:=Option.bind_eq_some_iff.1 h
   try dsimp only at h
   obtain ⟨p52,h⟩:=Fd.1 h
   refine Two.mk ⟨?_,?_⟩
   ·conv=>whnf
    refine SameQ.mk ⟨rfl,?_⟩
    conv=>whnf
    refine SameQ.mk ⟨rfl,?_⟩
    conv=>whnf
    refine SameQ.mk ⟨rfl,?_⟩
    conv=>whnf
    refine SameQ.mk ⟨rfl,?_⟩
    conv=>whnf
    refine SameQ.mk ⟨rfl,?_⟩
    conv=>whnf
    refine Cells.lit rfl rfl ?_
    conv=>whnf
    refine SameQ.mk ⟨rfl,?_⟩
    conv=>whnf
    refine Len.map ?_
    conv=>whnf
    refine Two.mk ⟨?_,?_⟩
    ·conv=>whnf
     refine SameQ.mk ⟨rfl,?_⟩
     conv=>whnf
     refine SameQ.mk ⟨rfl,?_⟩
     conv=>whnf
     refine SameQ.mk ⟨rfl,?_⟩
     conv=>whnf
     refine SameQ.mk ⟨rfl,?_⟩
     conv=>whnf
     refine Cells.lit rfl rfl ?_
     conv=>whnf
     refine SameQ.mk ⟨rfl,?_⟩
     conv=>whnf
     refine CallQ.io Af (rP true (Aj false)) (by first | rfl | simp only [Aa,V.fz,fzL,V.up,upL,Ab,Ac,Ad,slr,List.cons_append,List.nil_append] | simp [Aa,V.fz,fzL,V.up,upL,Ab,Ac,Ad,slr]) rfl (fun _=>rfl) (fun _=>⟨rfl,rfl⟩) rfl (show Option.bind (Am (u40) ((↑q38_5.length:Int))) some=some (r43,u44) by rw [e49];rfl) (fun r h=>Ar h) (fun b53 c54 hb=> ?_)
     obtain ⟨rfl,rfl⟩:r43=b53∧u44=c54:=by cases hb;exact ⟨rfl,rfl⟩
     conv=>whnf
     refine SameQ.mk ⟨rfl,?_⟩
     conv=>whnf
     refine SameQ.mk ⟨rfl,?_⟩
     conv=>whnf
     refine SameQ.mk ⟨rfl,?_⟩
     conv=>whnf
     refine Cells.lit rfl rfl ?_
     conv=>whnf
     refine SameQ.mk ⟨rfl,?_⟩
     conv=>whnf
     refine Len.map ?_
     conv=>whnf
     refine SameQ.mk ⟨rfl,?_⟩
     conv=>whnf
     refine SameQ.mk ⟨rfl,?_⟩
     conv=>whnf
     refine Ask.mk p50 ?_
     conv=>whnf
     refine SameQ.mk ⟨rfl,?_⟩
     conv=>whnf
     refine SameQ.mk ⟨rfl,?_⟩
     conv=>whnf
     refine BslQ.o Af ([(-1:Int)-(↑a0.Ops.length:Int),(6:Int),(-9223372036854775808:Int),(9223372036854775807:Int)]) (by exact fun _=>⟨rfl,rfl⟩) (by first | rfl | (simp only [Aa,V.fz,fzL,V.up,upL,Ab,Ac,Ad,slr,List.cons_append,List.nil_append];done) | simp [Aa,V.fz,fzL,V.up,upL,Ab,Ac,Ad,slr]) ?_
     conv=>whnf
     refine SameQ.mk ⟨rfl,?_⟩
     conv=>whnf
     refine SameQ.mk ⟨rfl,?_⟩
     conv=>whnf
     refine CallQ.io Af (rP true (Aj false)) (by first | rfl | (simp only [Aa,Ak,V.fz,fzL,Ab,Ac,slr];done) | simp [Aa,Ak,V.fz,fzL,V.up,upL,Ab,Ac,Ad,slr]) rfl (fun _=>rfl) (fun _=>⟨rfl,rfl⟩) rfl (show Option.bind (Al (u44) ([(-1:Int)-(↑a0.Ops.length:Int),(6:Int),(-9223372036854775808:Int),(9223372036854775807:Int)])) some=some (r46,u47) by rw [e51];rfl) (fun r h=>As h) (fun b55 c56 hb=> ?_)
     obtain ⟨rfl,rfl⟩:r46=b55∧u47=c56:=by cases hb;exact ⟨rfl,rfl⟩
     conv=>whnf
     refine SameQ.mk ⟨rfl,?_⟩
     conv=>whnf
     refine Len.map ?_
     conv=>whnf
     refine Ask.mk p52 ?_
     conv=>whnf
     refine SetKids.one (fun _=>⟨rfl,rfl⟩) (r46) (by first | rfl | simp only [Aa,V.fz,fzL,V.up,upL,Ab,Ac,Ad,slr,List.cons_append,List.nil_append] | simp [Aa,V.fz,fzL,V.up,upL,Ab,Ac,Ad,slr]) (by first | omega | (simp [A8] at * <;> omega)) ?_
     conv=>whnf
     cases h;exact ⟨(by first | rfl | simp only [Ah,Aa,Ac,slr] | simp [Ah,Aa,V.fz,fzL,V.up,upL,Ab,Ac,Ad,slr]),(by first | rfl | simp only [Ah,Aa,V.fz,fzL,V.up,upL,Ab,Ac,Ad,slr] | simp [Ah,Aa,V.fz,fzL,V.up,upL,Ab,Ac,Ad,slr])⟩
    conv=>whnf
    refine SameQ.mk ⟨rfl,?_⟩
    conv=>whnf
    refine SameQ.mk ⟨rfl,?_⟩
    conv=>whnf
    refine SameQ.mk ⟨rfl,?_⟩
    conv=>whnf
    refine SameQ.mk ⟨rfl,?_⟩
    conv=>whnf
    refine Cells.lit rfl rfl ?_
    conv=>whnf
    refine SameQ.mk ⟨rfl,?_⟩
    conv=>whnf
    refine Len.map ?_
    conv=>whnf
    refine Two.mk ⟨?_,?_⟩
    ·conv=>whnf
     refine SameQ.mk ⟨rfl,?_⟩
     conv=>whnf
     refine SameQ.mk ⟨rfl,?_⟩
     conv=>whnf
     refine SameQ.mk ⟨rfl,?_⟩
     conv=>whnf
     refine CallQ.io Af (rP true (Aj false)) (by first | rfl | simp only [Aa,V.fz,fzL,V.up,upL,Ab,Ac,Ad,slr,List.cons_append,List.nil_append] | simp [Aa,V.fz,fzL,V.up,upL,Ab,Ac,Ad,slr]) rfl (fun _=>rfl) (fun _=>⟨rfl,rfl⟩) rfl (show Option.bind (Am (u40) ((↑q38_5.length:Int))) some=some (r43,u44) by rw [e49];rfl) (fun r h=>Ar h) (fun b57 c58 hb=> ?_)
     obtain ⟨rfl,rfl⟩:r43=b57∧u44=c58:=by cases hb;exact ⟨rfl,rfl⟩
     conv=>whnf
     refine SameQ.mk ⟨rfl,?_⟩
     conv=>whnf
     refine SameQ.mk ⟨rfl,?_⟩
     conv=>whnf
     refine Ask.mk p50 ?_
     conv=>whnf
     refine SameQ.mk ⟨rfl,?_⟩
     conv=>whnf
     refine SameQ.mk ⟨rfl,?_⟩
     conv=>whnf
     refine BslQ.o Af ([(-1:Int)-(↑a0.Ops.length:Int),(6:Int),(-9223372036854775808:Int),(9223372036854775807:Int)]) (by exact fun _=>⟨rfl,rfl⟩) (by first | rfl | (simp only [Aa,V.fz,fzL,V.up,upL,Ab,Ac,Ad,slr,List.cons_append,List.nil_append];done) | simp [Aa,V.fz,fzL,V.up,upL,Ab,Ac,Ad,slr]) ?_
     conv=>whnf
     refine SameQ.mk ⟨rfl,?_⟩
     conv=>whnf
     refine SameQ.mk ⟨rfl,?_⟩
     conv=>whnf
     refine CallQ.io Af (rP true (Aj false)) (by first | rfl | (simp only [Aa,Ak,V.fz,fzL,Ab,Ac,slr];done) | simp [Aa,Ak,V.fz,fzL,V.up,upL,Ab,Ac,Ad,slr]) rfl (fun _=>rfl) (fun _=>⟨rfl,rfl⟩) rfl (show Option.bind (Al (u44) ([(-1:Int)-(↑a0.Ops.length:Int),(6:Int),(-9223372036854775808:Int),(9223372036854775807:Int)])) some=some (r46,u47) by rw [e51];rfl) (fun r h=>As h) (fun b59 c60 hb=> ?_)
     obtain ⟨rfl,rfl⟩:r46=b59∧u47=c60:=by cases hb;exact ⟨rfl,rfl⟩
     conv=>whnf
     refine SameQ.mk ⟨rfl,?_⟩
     conv=>whnf
     refine Len.map ?_
     conv=>whnf
     refine Ask.mk p52 ?_
     conv=>whnf
     refine SetKids.one (fun _=>⟨rfl,rfl⟩) (r46) (by first | rfl | simp only [Aa,V.fz,fzL,V.up,upL,Ab,Ac,Ad,slr,List.cons_append,List.nil_append] | simp [Aa,V.fz,fzL,V.up,upL,Ab,Ac,Ad,slr]) (by first | omega | (simp [A8] at * <;> omega)) ?_
     conv=>whnf
     cases h;exact ⟨(by first | rfl | simp only [Ah,Aa,Ac,slr] | simp [Ah,Aa,V.fz,fzL,V.up,upL,Ab,Ac,Ad,slr]),(by first | rfl | simp only [Ah,Aa,V.fz,fzL,V.up,upL,Ab,Ac,Ad,slr] | simp [Ah,Aa,V.fz,fzL,V.up,upL,Ab,Ac,Ad,slr])⟩
    conv=>whnf
    refine SameQ.mk ⟨rfl,?_⟩
    conv=>whnf
    refine SameQ.mk ⟨rfl,?_⟩
    conv=>whnf
    refine SameQ.mk ⟨rfl,?_⟩
    conv=>whnf
    refine Ask.mk p50 ?_
    conv=>whnf
    refine Two.mk ⟨?_,?_⟩
    ·conv=>whnf
     refine SameQ.mk ⟨rfl,?_⟩
     conv=>whnf
     refine SameQ.mk ⟨rfl,?_⟩
     conv=>whnf
     refine SameQ.mk ⟨rfl,?_⟩
     conv=>whnf
     refine CallQ.io Af (rP true (Aj false)) (by first | rfl | simp only [Aa,V.fz,fzL,V.up,upL,Ab,Ac,Ad,slr,List.cons_append,List.nil_append] | simp [Aa,V.fz,fzL,V.up,upL,Ab,Ac,Ad,slr]) rfl (fun _=>rfl) (fun _=>⟨rfl,rfl⟩) rfl (show Option.bind (Am (u40) ((↑q38_5.length:Int))) some=some (r43,u44) by rw [e49];rfl) (fun r h=>Ar h) (fun b61 c62 hb=> ?_)
     obtain ⟨rfl,rfl⟩:r43=b61∧u44=c62:=by cases hb;exact ⟨rfl,rfl⟩
     conv=>whnf
     refine SameQ.mk ⟨rfl,?_⟩
     conv=>whnf
     refine SameQ.mk ⟨rfl,?_⟩
     conv=>whnf
     refine BslQ.o Af ([(-1:Int)-(↑a0.Ops.length:Int),(6:Int),(-9223372036854775808:Int),(9223372036854775807:Int)]) (by exact fun _=>⟨rfl,rfl⟩) (by first | rfl | (simp only [Aa,V.fz,fzL,V.up,upL,Ab,Ac,Ad,slr,List.cons_append,List.nil_append];done) | simp [Aa,V.fz,fzL,V.up,upL,Ab,Ac,Ad,slr]) ?_
     conv=>whnf
     refine SameQ.mk ⟨rfl,?_⟩
     conv=>whnf
     refine SameQ.mk ⟨rfl,?_⟩
     conv=>whnf
     refine CallQ.io Af (rP true (Aj false)) (by first | rfl | (simp only [Aa,Ak,V.fz,fzL,Ab,Ac,slr];done) | simp [Aa,Ak,V.fz,fzL,V.up,upL,Ab,Ac,Ad,slr]) rfl (fun _=>rfl) (fun _=>⟨rfl,rfl⟩) rfl (show Option.bind (Al (u44) ([(-1:Int)-(↑a0.Ops.length:Int),(6:Int),(-9223372036854775808:Int),(9223372036854775807:Int)])) some=some (r46,u47) by rw [e51];rfl) (fun r h=>As h) (fun b63 c64 hb=> ?_)
     obtain ⟨rfl,rfl⟩:r46=b63∧u47=c64:=by cases hb;exact ⟨rfl,rfl⟩
     conv=>whnf
     refine SameQ.mk ⟨rfl,?_⟩
     conv=>whnf
     refine Len.map ?_
     conv=>whnf
     refine Ask.mk p52 ?_
     conv=>whnf
     refine SetKids.one (fun _=>⟨rfl,rfl⟩) (r46) (by first | rfl | simp only [Aa,V.fz,fzL,V.up,upL,Ab,Ac,Ad,slr,List.cons_append,List.nil_append] | simp [Aa,V.fz,fzL,V.up,upL,Ab,Ac,Ad,slr]) (by first | omega | (simp [A8] at * <;> omega)) ?_
     conv=>whnf
     cases h;exact ⟨(by first | rfl | simp only [Ah,Aa,Ac,slr] | simp [Ah,Aa,V.fz,fzL,V.up,upL,Ab,Ac,Ad,slr]),(by first | rfl | simp only [Ah,Aa,V.fz,fzL,V.up,upL,Ab,Ac,Ad,slr] | simp [Ah,Aa,V.fz,fzL,V.up,upL,Ab,Ac,Ad,slr])⟩
    conv=>whnf
    refine SameQ.mk ⟨rfl,?_⟩
    conv=>whnf
    refine SameQ.mk ⟨rfl,?_⟩
    conv=>whnf
    refine SameQ.mk ⟨rfl,?_⟩
    conv=>whnf
    refine BslQ.o Af ([(-1:Int)-(↑a0.Ops.length:Int),(6:Int),(-9223372036854775808:Int),(9223372036854775807:Int)]) (by exact fun _=>⟨rfl,rfl⟩) (by first | rfl | (simp only [Aa,V.fz,fzL,V.up,upL,Ab,Ac,Ad,slr,List.cons_append,List.nil_append];done) | simp [Aa,V.fz,fzL,V.up,upL,Ab,Ac,Ad,slr]) ?_
    conv=>whnf
    refine SameQ.mk ⟨rfl,?_⟩
    conv=>whnf
    refine SameQ.mk ⟨rfl,?_⟩
    conv=>whnf
    refine SameQ.mk ⟨rfl,?_⟩
    conv=>whnf
    refine CallQ.io Af (rP true (Aj false)) (by first | rfl | simp only [Aa,V.fz,fzL,V.up,upL,Ab,Ac,Ad,slr,List.cons_append,List.nil_append] | simp [Aa,V.fz,fzL,V.up,upL,Ab,Ac,Ad,slr]) rfl (fun _=>rfl) (fun _=>⟨rfl,rfl⟩) rfl (show Option.bind (Am (u40) ((↑q38_5.length:Int))) some=some (r43,u44) by rw [e49];rfl) (fun r h=>Ar h) (fun b65 c66 hb=> ?_)
    obtain ⟨rfl,rfl⟩:r43=b65∧u44=c66:=by cases hb;exact ⟨rfl,rfl⟩
    conv=>whnf
    refine SameQ.mk ⟨rfl,?_⟩
    conv=>whnf
    refine SameQ.mk ⟨rfl,?_⟩
    conv=>whnf
    refine CallQ.io Af (rP true (Aj false)) (by first | rfl | (simp only [Aa,Ak,V.fz,fzL,Ab,Ac,slr];done) | simp [Aa,Ak,V.fz,fzL,V.up,upL,Ab,Ac,Ad,slr]) rfl (fun _=>rfl) (fun _=>⟨rfl,rfl⟩) rfl (show Option.bind (Al (u44) ([(-1:Int)-(↑a0.Ops.length:Int),(6:Int),(-9223372036854775808:Int),(9223372036854775807:Int)])) some=some (r46,u47) by rw [e51];rfl) (fun r h=>As h) (fun b67 c68 hb=> ?_)
    obtain ⟨rfl,rfl⟩:r46=b67∧u47=c68:=by cases hb;exact ⟨rfl,rfl⟩
    conv=>whnf
    refine SameQ.mk ⟨rfl,?_⟩
    conv=>whnf
    refine Len.map ?_
    conv=>whnf
    refine Ask.mk p52 ?_
    conv=>whnf
    refine SetKids.one (fun _=>⟨rfl,rfl⟩) (r46) (by first | rfl | simp only [Aa,V.fz,fzL,V.up,upL,Ab,Ac,Ad,slr,List.cons_append,List.nil_append] | simp [Aa,V.fz,fzL,V.up,upL,Ab,Ac,Ad,slr]) (by first | omega | (simp [A8] at * <;> omega)) ?_
    conv=>whnf
    cases h;exact ⟨(by first | rfl | simp only [Ah,Aa,Ac,slr] | simp [Ah,Aa,V.fz,fzL,V.up,upL,Ab,Ac,Ad,slr]),(by first | rfl | simp only [Ah,Aa,V.fz,fzL,V.up,upL,Ab,Ac,Ad,slr] | simp [Ah,Aa,V.fz,fzL,V.up,upL,Ab,Ac,Ad,slr])⟩
   conv=>whnf
   refine SameQ.mk ⟨rfl,?_⟩
   conv=>whnf
   refine SameQ.mk ⟨rfl,?_⟩
   conv=>whnf
   refine SameQ.mk ⟨rfl,?_⟩
   conv=>whnf
   refine SameQ.mk ⟨rfl,?_⟩
   conv=>whnf
   refine SameQ.mk ⟨rfl,?_⟩
   conv=>whnf
   refine Cells.lit rfl rfl ?_
   conv=>whnf
   refine SameQ.mk ⟨rfl,?_⟩
   conv=>whnf
   refine Len.map ?_
   conv=>whnf
   refine Two.mk ⟨?_,?_⟩
   ·conv=>whnf
    refine SameQ.mk ⟨rfl,?_⟩
    conv=>whnf
    refine SameQ.mk ⟨rfl,?_⟩
    conv=>whnf
    refine SameQ.mk ⟨rfl,?_⟩
    conv=>whnf
    refine SameQ.mk ⟨rfl,?_⟩
    conv=>whnf
    refine Len.map ?_
    conv=>whnf
    refine Two.mk ⟨?_,?_⟩
    ·conv=>whnf
     refine SameQ.mk ⟨rfl,?_⟩
     conv=>whnf
     refine SameQ.mk ⟨rfl,?_⟩
     conv=>whnf
     refine SameQ.mk ⟨rfl,?_⟩
     conv=>whnf
     refine CallQ.io Af (rP true (Aj false)) (by first | rfl | simp only [Aa,V.fz,fzL,V.up,upL,Ab,Ac,Ad,slr,List.cons_append,List.nil_append] | simp [Aa,V.fz,fzL,V.up,upL,Ab,Ac,Ad,slr]) rfl (fun _=>rfl) (fun _=>⟨rfl,rfl⟩) rfl (show Option.bind (Am (u40) ((↑q38_5.length:Int))) some=some (r43,u44) by rw [e49];rfl) (fun r h=>Ar h) (fun b69 c70 hb=> ?_)
     obtain ⟨rfl,rfl⟩:r43=b69∧u44=c70:=by cases hb;exact ⟨rfl,rfl⟩
     conv=>whnf
     refine SameQ.mk ⟨rfl,?_⟩
     conv=>whnf
     refine SameQ.mk ⟨rfl,?_⟩
     conv=>whnf
     refine Ask.mk p50 ?_
     conv=>whnf
     refine SameQ.mk ⟨rfl,?_⟩
     conv=>whnf
     refine SameQ.mk ⟨rfl,?_⟩
     conv=>whnf
     refine BslQ.o Af ([(-1:Int)-(↑a0.Ops.length:Int),(6:Int),(-9223372036854775808:Int),(9223372036854775807:Int)]) (by exact fun _=>⟨rfl,rfl⟩) (by first | rfl | (simp only [Aa,V.fz,fzL,V.up,upL,Ab,Ac,Ad,slr,List.cons_append,List.nil_append];done) | simp [Aa,V.fz,fzL,V.up,upL,Ab,Ac,Ad,slr]) ?_
     conv=>whnf
     refine SameQ.mk ⟨rfl,?_⟩
     conv=>whnf
     refine SameQ.mk ⟨rfl,?_⟩
     conv=>whnf
     refine CallQ.io Af (rP true (Aj false)) (by first | rfl | (simp only [Aa,Ak,V.fz,fzL,Ab,Ac,slr];done) | simp [Aa,Ak,V.fz,fzL,V.up,upL,Ab,Ac,Ad,slr]) rfl (fun _=>rfl) (fun _=>⟨rfl,rfl⟩) rfl (show Option.bind (Al (u44) ([(-1:Int)-(↑a0.Ops.length:Int),(6:Int),(-9223372036854775808:Int),(9223372036854775807:Int)])) some=some (r46,u47) by rw [e51];rfl) (fun r h=>As h) (fun b71 c72 hb=> ?_)
     obtain ⟨rfl,rfl⟩:r46=b71∧u47=c72:=by cases hb;exact ⟨rfl,rfl⟩
     conv=>whnf
     refine SameQ.mk ⟨rfl,?_⟩
     conv=>whnf
     refine Len.map ?_
     conv=>whnf
     refine Ask.mk p52 ?_
     conv=>whnf
     refine SetKids.one (fun _=>⟨rfl,rfl⟩) (r46) (by first | rfl | simp only [Aa,V.fz,fzL,V.up,upL,Ab,Ac,Ad,slr,List.cons_append,List.nil_append] | simp [Aa,V.fz,fzL,V.up,upL,Ab,Ac,Ad,slr]) (by first | omega | (simp [A8] at * <;> omega)) ?_
     conv=>whnf
     cases h;exact ⟨(by first | rfl | simp only [Ah,Aa,Ac,slr] | simp [Ah,Aa,V.fz,fzL,V.up,upL,Ab,Ac,Ad,slr]),(by first | rfl | simp only [Ah,Aa,V.fz,fzL,V.up,upL,Ab,Ac,Ad,slr] | simp [Ah,Aa,V.fz,fzL,V.up,upL,Ab,Ac,Ad,slr])⟩
    conv=>whnf
    refine SameQ.mk ⟨rfl,?_⟩
    conv=>whnf
    refine SameQ.mk ⟨rfl,?_⟩
    conv=>whnf
    refine SameQ.mk ⟨rfl,?_⟩
    conv=>whnf
    refine Ask.mk p50 ?_
    conv=>whnf
    refine Two.mk ⟨?_,?_⟩
    ·conv=>whnf
     refine SameQ.mk ⟨rfl,?_⟩
     conv=>whnf
     refine SameQ.mk ⟨rfl,?_⟩
     conv=>whnf
     refine SameQ.mk ⟨rfl,?_⟩
     conv=>whnf
     refine CallQ.io Af (rP true (Aj false)) (by first | rfl | simp only [Aa,V.fz,fzL,V.up,upL,Ab,Ac,Ad,slr,List.cons_append,List.nil_append] | simp [Aa,V.fz,fzL,V.up,upL,Ab,Ac,Ad,slr]) rfl (fun _=>rfl) (fun _=>⟨rfl,rfl⟩) rfl (show Option.bind (Am (u40) ((↑q38_5.length:Int))) some=some (r43,u44) by rw [e49];rfl) (fun r h=>Ar h) (fun b73 c74 hb=> ?_)
     obtain ⟨rfl,rfl⟩:r43=b73∧u44=c74:=by cases hb;exact ⟨rfl,rfl⟩
     conv=>whnf
     refine SameQ.mk ⟨rfl,?_⟩
     conv=>whnf
     refine SameQ.mk ⟨rfl,?_⟩
     conv=>whnf
     refine BslQ.o Af ([(-1:Int)-(↑a0.Ops.length:Int),(6:Int),(-9223372036854775808:Int),(9223372036854775807:Int)]) (by exact fun _=>⟨rfl,rfl⟩) (by first | rfl | (simp only [Aa,V.fz,fzL,V.up,upL,Ab,Ac,Ad,slr,List.cons_append,List.nil_append];done) | simp [Aa,V.fz,fzL,V.up,upL,Ab,Ac,Ad,slr]) ?_
     conv=>whnf
     refine SameQ.mk ⟨rfl,?_⟩
     conv=>whnf
     refine SameQ.mk ⟨rfl,?_⟩
     conv=>whnf
     refine CallQ.io Af (rP true (Aj false)) (by first | rfl | (simp only [Aa,Ak,V.fz,fzL,Ab,Ac,slr];done) | simp [Aa,Ak,V.fz,fzL,V.up,upL,Ab,Ac,Ad,slr]) rfl (fun _=>rfl) (fun _=>⟨rfl,rfl⟩) rfl (show Option.bind (Al (u44) ([(-1:Int)-(↑a0.Ops.length:Int),(6:Int),(-9223372036854775808:Int),(9223372036854775807:Int)])) some=some (r46,u47) by rw [e51];rfl) (fun r h=>As h) (fun b75 c76 hb=> ?_)
     obtain ⟨rfl,rfl⟩:r46=b75∧u47=c76:=by cases hb;exact ⟨rfl,rfl⟩
     conv=>whnf
     refine SameQ.mk ⟨rfl,?_⟩
     conv=>whnf
     refine Len.map ?_
     conv=>whnf
     refine Ask.mk p52 ?_
     conv=>whnf
     refine SetKids.one (fun _=>⟨rfl,rfl⟩) (r46) (by first | rfl | simp only [Aa,V.fz,fzL,V.up,upL,Ab,Ac,Ad,slr,List.cons_append,List.nil_append] | simp [Aa,V.fz,fzL,V.up,upL,Ab,Ac,Ad,slr]) (by first | omega | (simp [A8] at * <;> omega)) ?_
     conv=>whnf
     cases h;exact ⟨(by first | rfl | simp only [Ah,Aa,Ac,slr] | simp [Ah,Aa,V.fz,fzL,V.up,upL,Ab,Ac,Ad,slr]),(by first | rfl | simp only [Ah,Aa,V.fz,fzL,V.up,upL,Ab,Ac,Ad,slr] | simp [Ah,Aa,V.fz,fzL,V.up,upL,Ab,Ac,Ad,slr])⟩
    conv=>whnf
    refine SameQ.mk ⟨rfl,?_⟩
    conv=>whnf
    refine SameQ.mk ⟨rfl,?_⟩
    conv=>whnf
    refine SameQ.mk ⟨rfl,?_⟩
    conv=>whnf
    refine BslQ.o Af ([(-1:Int)-(↑a0.Ops.length:Int),(6:Int),(-9223372036854775808:Int),(9223372036854775807:Int)]) (by exact fun _=>⟨rfl,rfl⟩) (by first | rfl | (simp only [Aa,V.fz,fzL,V.up,upL,Ab,Ac,Ad,slr,List.cons_append,List.nil_append];done) | simp [Aa,V.fz,fzL,V.up,upL,Ab,Ac,Ad,slr]) ?_
    conv=>whnf
    refine SameQ.mk ⟨rfl,?_⟩
    conv=>whnf
    refine SameQ.mk ⟨rfl,?_⟩
    conv=>whnf
    refine SameQ.mk ⟨rfl,?_⟩
    conv=>whnf
    refine CallQ.io Af (rP true (Aj false)) (by first | rfl | simp only [Aa,V.fz,fzL,V.up,upL,Ab,Ac,Ad,slr,List.cons_append,List.nil_append] | simp [Aa,V.fz,fzL,V.up,upL,Ab,Ac,Ad,slr]) rfl (fun _=>rfl) (fun _=>⟨rfl,rfl⟩) rfl (show Option.bind (Am (u40) ((↑q38_5.length:Int))) some=some (r43,u44) by rw [e49];rfl) (fun r h=>Ar h) (fun b77 c78 hb=> ?_)
    obtain ⟨rfl,rfl⟩:r43=b77∧u44=c78:=by cases hb;exact ⟨rfl,rfl⟩
    conv=>whnf
    refine SameQ.mk ⟨rfl,?_⟩
    conv=>whnf
    refine SameQ.mk ⟨rfl,?_⟩
    conv=>whnf
    refine CallQ.io Af (rP true (Aj false)) (by first | rfl | (simp only [Aa,Ak,V.fz,fzL,Ab,Ac,slr];done) | simp [Aa,Ak,V.fz,fzL,V.up,upL,Ab,Ac,Ad,slr]) rfl (fun _=>rfl) (fun _=>⟨rfl,rfl⟩) rfl (show Option.bind (Al (u44) ([(-1:Int)-(↑a0.Ops.length:Int),(6:Int),(-9223372036854775808:Int),(9223372036854775807:Int)])) some=some (r46,u47) by rw [e51];rfl) (fun r h=>As h) (fun b79 c80 hb=> ?_)
    obtain ⟨rfl,rfl⟩:r46=b79∧u47=c80:=by cases hb;exact ⟨rfl,rfl⟩
    conv=>whnf
    refine SameQ.mk ⟨rfl,?_⟩
    conv=>whnf
    refine Len.map ?_
    conv=>whnf
    refine Ask.mk p52 ?_
    conv=>whnf
    refine SetKids.one (fun _=>⟨rfl,rfl⟩) (r46) (by first | rfl | simp only [Aa,V.fz,fzL,V.up,upL,Ab,Ac,Ad,slr,List.cons_append,List.nil_append] | simp [Aa,V.fz,fzL,V.up,upL,Ab,Ac,Ad,slr]) (by first | omega | (simp [A8] at * <;> omega)) ?_
    conv=>whnf
    cases h;exact ⟨(by first | rfl | simp only [Ah,Aa,Ac,slr] | simp [Ah,Aa,V.fz,fzL,V.up,upL,Ab,Ac,Ad,slr]),(by first | rfl | simp only [Ah,Aa,V.fz,fzL,V.up,upL,Ab,Ac,Ad,slr] | simp [Ah,Aa,V.fz,fzL,V.up,upL,Ab,Ac,Ad,slr])⟩
   conv=>whnf
   refine SameQ.mk ⟨rfl,?_⟩
   conv=>whnf
   refine SameQ.mk ⟨rfl,?_⟩
   conv=>whnf
   refine SameQ.mk ⟨rfl,?_⟩
   conv=>whnf
   refine SameQ.mk ⟨rfl,?_⟩
   conv=>whnf
   refine Ask.mk p50 ?_
   conv=>whnf
   refine Two.mk ⟨?_,?_⟩
   ·conv=>whnf
    refine SameQ.mk ⟨rfl,?_⟩
    conv=>whnf
    refine SameQ.mk ⟨rfl,?_⟩
    conv=>whnf
    refine SameQ.mk ⟨rfl,?_⟩
    conv=>whnf
    refine SameQ.mk ⟨rfl,?_⟩
    conv=>whnf
    refine Len.map ?_
    conv=>whnf
    refine Two.mk ⟨?_,?_⟩
    ·conv=>whnf
     refine SameQ.mk ⟨rfl,?_⟩
     conv=>whnf
     refine SameQ.mk ⟨rfl,?_⟩
     conv=>whnf
     refine SameQ.mk ⟨rfl,?_⟩
     conv=>whnf
     refine CallQ.io Af (rP true (Aj false)) (by first | rfl | simp only [Aa,V.fz,fzL,V.up,upL,Ab,Ac,Ad,slr,List.cons_append,List.nil_append] | simp [Aa,V.fz,fzL,V.up,upL,Ab,Ac,Ad,slr]) rfl (fun _=>rfl) (fun _=>⟨rfl,rfl⟩) rfl (show Option.bind (Am (u40) ((↑q38_5.length:Int))) some=some (r43,u44) by rw [e49];rfl) (fun r h=>Ar h) (fun b81 c82 hb=> ?_)
     obtain ⟨rfl,rfl⟩:r43=b81∧u44=c82:=by cases hb;exact ⟨rfl,rfl⟩
     conv=>whnf
     refine SameQ.mk ⟨rfl,?_⟩
     conv=>whnf
     refine SameQ.mk ⟨rfl,?_⟩
     conv=>whnf
     refine BslQ.o Af ([(-1:Int)-(↑a0.Ops.length:Int),(6:Int),(-9223372036854775808:Int),(9223372036854775807:Int)]) (by exact fun _=>⟨rfl,rfl⟩) (by first | rfl | (simp only [Aa,V.fz,fzL,V.up,upL,Ab,Ac,Ad,slr,List.cons_append,List.nil_append];done) | simp [Aa,V.fz,fzL,V.up,upL,Ab,Ac,Ad,slr]) ?_
     conv=>whnf
     refine SameQ.mk ⟨rfl,?_⟩
     conv=>whnf
     refine SameQ.mk ⟨rfl,?_⟩
     conv=>whnf
     refine CallQ.io Af (rP true (Aj false)) (by first | rfl | (simp only [Aa,Ak,V.fz,fzL,Ab,Ac,slr];done) | simp [Aa,Ak,V.fz,fzL,V.up,upL,Ab,Ac,Ad,slr]) rfl (fun _=>rfl) (fun _=>⟨rfl,rfl⟩) rfl (show Option.bind (Al (u44) ([(-1:Int)-(↑a0.Ops.length:Int),(6:Int),(-9223372036854775808:Int),(9223372036854775807:Int)])) some=some (r46,u47) by rw [e51];rfl) (fun r h=>As h) (fun b83 c84 hb=> ?_)
     obtain ⟨rfl,rfl⟩:r46=b83∧u47=c84:=by cases hb;exact ⟨rfl,rfl⟩
     conv=>whnf
     refine SameQ.mk ⟨rfl,?_⟩
     conv=>whnf
     refine Len.map ?_
     conv=>whnf
     refine Ask.mk p52 ?_
     conv=>whnf
     refine SetKids.one (fun _=>⟨rfl,rfl⟩) (r46) (by first | rfl | simp only [Aa,V.fz,fzL,V.up,upL,Ab,Ac,Ad,slr,List.cons_append,List.nil_append] | simp [Aa,V.fz,fzL,V.up,upL,Ab,Ac,Ad,slr]) (by first | omega | (simp [A8] at * <;> omega)) ?_
     conv=>whnf
     cases h;exact ⟨(by first | rfl | simp only [Ah,Aa,Ac,slr] | simp [Ah,Aa,V.fz,fzL,V.up,upL,Ab,Ac,Ad,slr]),(by first | rfl | simp only [Ah,Aa,V.fz,fzL,V.up,upL,Ab,Ac,Ad,slr] | simp [Ah,Aa,V.fz,fzL,V.up,upL,Ab,Ac,Ad,slr])⟩
    conv=>whnf
    refine SameQ.mk ⟨rfl,?_⟩
    conv=>whnf
    refine SameQ.mk ⟨rfl,?_⟩
    conv=>whnf
    refine SameQ.mk ⟨rfl,?_⟩
    conv=>whnf
    refine BslQ.o Af ([(-1:Int)-(↑a0.Ops.length:Int),(6:Int),(-9223372036854775808:Int),(9223372036854775807:Int)]) (by exact fun _=>⟨rfl,rfl⟩) (by first | rfl | (simp only [Aa,V.fz,fzL,V.up,upL,Ab,Ac,Ad,slr,List.cons_append,List.nil_append];done) | simp [Aa,V.fz,fzL,V.up,upL,Ab,Ac,Ad,slr]) ?_
    conv=>whnf
    refine SameQ.mk ⟨rfl,?_⟩
    conv=>whnf
    refine SameQ.mk ⟨rfl,?_⟩
    conv=>whnf
    refine SameQ.mk ⟨rfl,?_⟩
    conv=>whnf
    refine CallQ.io Af (rP true (Aj false)) (by first | rfl | simp only [Aa,V.fz,fzL,V.up,upL,Ab,Ac,Ad,slr,List.cons_append,List.nil_append] | simp [Aa,V.fz,fzL,V.up,upL,Ab,Ac,Ad,slr]) rfl (fun _=>rfl) (fun _=>⟨rfl,rfl⟩) rfl (show Option.bind (Am (u40) ((↑q38_5.length:Int))) some=some (r43,u44) by rw [e49];rfl) (fun r h=>Ar h) (fun b85 c86 hb=> ?_)
    obtain ⟨rfl,rfl⟩:r43=b85∧u44=c86:=by cases hb;exact ⟨rfl,rfl⟩
    conv=>whnf
    refine SameQ.mk ⟨rfl,?_⟩
    conv=>whnf
    refine SameQ.mk ⟨rfl,?_⟩
    conv=>whnf
    refine CallQ.io Af (rP true (Aj false)) (by first | rfl | (simp only [Aa,Ak,V.fz,fzL,Ab,Ac,slr];done) | simp [Aa,Ak,V.fz,fzL,V.up,upL,Ab,Ac,Ad,slr]) rfl (fun _=>rfl) (fun _=>⟨rfl,rfl⟩) rfl (show Option.bind (Al (u44) ([(-1:Int)-(↑a0.Ops.length:Int),(6:Int),(-9223372036854775808:Int),(9223372036854775807:Int)])) some=some (r46,u47) by rw [e51];rfl) (fun r h=>As h) (fun b87 c88 hb=> ?_)
    obtain ⟨rfl,rfl⟩:r46=b87∧u47=c88:=by cases hb;exact ⟨rfl,rfl⟩
    conv=>whnf
    refine SameQ.mk ⟨rfl,?_⟩
    conv=>whnf
    refine Len.map ?_
    conv=>whnf
    refine Ask.mk p52 ?_
    conv=>whnf
    refine SetKids.one (fun _=>⟨rfl,rfl⟩) (r46) (by first | rfl | simp only [Aa,V.fz,fzL,V.up,upL,Ab,Ac,Ad,slr,List.cons_append,List.nil_append] | simp [Aa,V.fz,fzL,V.up,upL,Ab,Ac,Ad,slr]) (by first | omega | (simp [A8] at * <;> omega)) ?_
    conv=>whnf
    cases h;exact ⟨(by first | rfl | simp only [Ah,Aa,Ac,slr] | simp [Ah,Aa,V.fz,fzL,V.up,upL,Ab,Ac,Ad,slr]),(by first | rfl | simp only [Ah,Aa,V.fz,fzL,V.up,upL,Ab,Ac,Ad,slr] | simp [Ah,Aa,V.fz,fzL,V.up,upL,Ab,Ac,Ad,slr])⟩
   conv=>whnf
   refine SameQ.mk ⟨rfl,?_⟩
   conv=>whnf
   refine SameQ.mk ⟨rfl,?_⟩
   conv=>whnf
   refine SameQ.mk ⟨rfl,?_⟩
   conv=>whnf
   refine SameQ.mk ⟨rfl,?_⟩
   conv=>whnf
   refine BslQ.o Af ([(-1:Int)-(↑a0.Ops.length:Int),(6:Int),(-9223372036854775808:Int),(9223372036854775807:Int)]) (by exact fun _=>⟨rfl,rfl⟩) (by first | rfl | (simp only [Aa,V.fz,fzL,V.up,upL,Ab,Ac,Ad,slr,List.cons_append,List.nil_append];done) | simp [Aa,V.fz,fzL,V.up,upL,Ab,Ac,Ad,slr]) ?_
   conv=>whnf
   refine SameQ.mk ⟨rfl,?_⟩
   conv=>whnf
   refine SameQ.mk ⟨rfl,?_⟩
   conv=>whnf
   refine SameQ.mk ⟨rfl,?_⟩
   conv=>whnf
   refine SameQ.mk ⟨rfl,?_⟩
   conv=>whnf
   refine Len.map ?_
   conv=>whnf
   refine SameQ.mk ⟨rfl,?_⟩
   conv=>whnf
   refine SameQ.mk ⟨rfl,?_⟩
   conv=>whnf
   refine SameQ.mk ⟨rfl,?_⟩
   conv=>whnf
   refine CallQ.io Af (rP true (Aj false)) (by first | rfl | simp only [Aa,V.fz,fzL,V.up,upL,Ab,Ac,Ad,slr,List.cons_append,List.nil_append] | simp [Aa,V.fz,fzL,V.up,upL,Ab,Ac,Ad,slr]) rfl (fun _=>rfl) (fun _=>⟨rfl,rfl⟩) rfl (show Option.bind (Am (u40) ((↑q38_5.length:Int))) some=some (r43,u44) by rw [e49];rfl) (fun r h=>Ar h) (fun b89 c90 hb=> ?_)
   obtain ⟨rfl,rfl⟩:r43=b89∧u44=c90:=by cases hb;exact ⟨rfl,rfl⟩
   conv=>whnf
   refine SameQ.mk ⟨rfl,?_⟩
   conv=>whnf
   refine SameQ.mk ⟨rfl,?_⟩
   conv=>whnf
   refine CallQ.io Af (rP true (Aj false)) (by first | rfl | (simp only [Aa,Ak,V.fz,fzL,Ab,Ac,slr];done) | simp [Aa,Ak,V.fz,fzL,V.up,upL,Ab,Ac,Ad,slr]) rfl (fun _=>rfl) (fun _=>⟨rfl,rfl⟩) rfl (show Option.bind (Al (u44) ([(-1:Int)-(↑a0.Ops.length:Int),(6:Int),(-9223372036854775808:Int),(9223372036854775807:Int)])) some=some (r46,u47) by rw [e51];rfl) (fun r h=>As h) (fun b91 c92 hb=> ?_)
   obtain ⟨rfl,rfl⟩:r46=b91∧u47=c92:=by cases hb;exact ⟨rfl,rfl⟩
   conv=>whnf
   refine SameQ.mk ⟨rfl,?_⟩
   conv=>whnf
   refine Len.map ?_
   conv=>whnf
   refine Ask.mk p52 ?_
   conv=>whnf
   refine SetKids.one (fun _=>⟨rfl,rfl⟩) (r46) (by first | rfl | simp only [Aa,V.fz,fzL,V.up,upL,Ab,Ac,Ad,slr,List.cons_append,List.nil_append] | simp [Aa,V.fz,fzL,V.up,upL,Ab,Ac,Ad,slr]) (by first | omega | (simp [A8] at * <;> omega)) ?_
   conv=>whnf
   cases h;exact ⟨(by first | rfl | simp only [Ah,Aa,Ac,slr] | simp [Ah,Aa,V.fz,fzL,V.up,upL,Ab,Ac,Ad,slr]),(by first | rfl | simp only [Ah,Aa,V.fz,fzL,V.up,upL,Ab,Ac,Ad,slr] | simp [Ah,Aa,V.fz,fzL,V.up,upL,Ab,Ac,Ad,slr])⟩
  conv=>whnf
  refine Br.oe h (fun p93 h=> ?_) (fun p93 h=> ?_)
  ·conv=>whnf
   refine FrzQ.d (V.sl false (1:Nat) (List.map Af q38_5)) (by first | (simp only [slr];done) | (simp [Ak,V.fz,Ab,slr];done) | (simp [Ak,V.fz,fzL,Ab,slr];done)) ?_
   conv=>whnf
   refine Len.map ?_
   conv=>whnf
   refine SlcQ.o Af h fun h=> ?_
   conv=>whnf
   cases h;exact ⟨(by first | rfl | simp only [Ah,Aa,V.fz,fzL,V.up,upL,Ab,Ac,Ad,slr] | simp [Ah,Aa,V.fz,fzL,V.up,upL,Ab,Ac,Ad,slr]),(by first | rfl | simp only [Ah,Aa,V.fz,fzL,V.up,upL,Ab,Ac,Ad,slr] | simp [Ah,Aa,V.fz,fzL,V.up,upL,Ab,Ac,Ad,slr])⟩
  conv=>whnf
  cases h;exact ⟨(by first | rfl | simp only [Ah,Ac,slr] | simp [Ah,Aa,V.fz,fzL,V.up,upL,Ab,Ac,Ad,slr]),(by first | rfl | simp only [Ah,Aa,V.fz,fzL,V.up,upL,Ab,Ac,Ad,slr] | simp [Ah,Aa,V.fz,fzL,V.up,upL,Ab,Ac,Ad,slr])⟩
 conv=>whnf
 refine BslQ.o Af ([(0:Int)]) (by exact fun _=>⟨rfl,rfl⟩) (by first | rfl | (simp only [Aa,V.fz,fzL,V.up,upL,Ab,Ac,Ad,slr,List.cons_append,List.nil_append];done) | simp [Aa,V.fz,fzL,V.up,upL,Ab,Ac,Ad,slr]) ?_
 conv=>whnf
 cases h;exact ⟨(by first | rfl | simp only [Ah,Aa,V.fz,fzL,V.up,upL,Ab,Ac,Ad,slr] | simp [Ah,Aa,V.fz,fzL,V.up,upL,Ab,Ac,Ad,slr]),(by first | rfl | simp only [Ah,Aa,V.fz,fzL,V.up,upL,Ab,Ac,Ad,slr] | simp [Ah,Aa,V.fz,fzL,V.up,upL,Ab,Ac,Ad,slr])⟩
end Go.Proofs.YtbnoclklhcbidaaDoor.Ax
