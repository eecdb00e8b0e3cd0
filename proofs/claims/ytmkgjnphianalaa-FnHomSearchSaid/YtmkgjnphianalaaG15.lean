/-
 What the functions compute, as functions on plain data, and that the program does compute it; written by program.
-/
import Derived.Test.YtmkgjnphianalaaCode
import Derived.Test.YtmkgjnphianalaaG6
import Derived.Test.YtmkgjnphianalaaG13
import Derived.Test.YtmkgjnphianalaaG14
namespace Go.Proofs.Ytmkgjnphianalaa.Ax
open Go
set_option maxRecDepth 100000
set_option maxHeartbeats 4000000
noncomputable def Hk (a0:SAlgebra) (b0:SAlgebra):Option ((List Int)×Bool):=
 (Dp (a0) (b0)).bind fun r1=>
 if (r1)=true then
 (Gj (a0) (b0) (false) (Sum.inr b0)).bind fun t=>match t with
 | (none,r3_2)=>(if (r3_2)=true then
 some (Ao Int,false)
 else
 some (Ao Int,false))
 | ((some r3_1),r3_2)=>(if (r3_2)=true then
 ask ((0:Int)<(↑r3_1.length:Int)) <|
 some (r3_1,true)
 else
 some (Ao Int,false))
 else
 some (Ao Int,false)
theorem Af0 {a0:SAlgebra} {b0:SAlgebra} {v:((List Int)×Bool)} (h:Hk a0 b0=some v):Ret Try.prog On [(Ae false) a0,(Ae false) b0] ((fun r=>V.tup [(slr false 1 Ag) r.1,V.bool r.2]) v):=by
 refine M2 Ag2 (Nat.le_of_ble_eq_true rfl) ?_
 unfold Hk at h
 refine Cells.lit rfl rfl ?_
 refine Cells.lit rfl rfl ?_
 refine CallQ.o V.bool (by rfl) h (fun r h=>In h) (fun r1 h=> ?_)
 refine Br.flip ?_
 refine Br.ob h (fun p2 h=> ?_) (fun p2 h=> ?_)
 ·refine FrzQ.d ((rP false (Ae false)) b0) ((Ak _).trans (Eq.trans (b:=V.fz ((rP true (Ae false)) b0)) rfl (Ad (rP true (Ae false)) _))) ?_
  refine Cells.lit rfl rfl ?_
  refine CallQ.o (fun r=>V.tup [(rOl 1 Ag) r.1,V.bool r.2]) (by rfl) h (fun r h=>Yb h) (fun r3 h=> ?_)
  rcases r3 with ⟨(_ | r3_1),r3_2⟩
  ·try dsimp only at h
   refine Br.flip ?_
   refine Br.ob h (fun p4 h=> ?_) (fun p4 h=> ?_)
   ·refine Br.no ?_
    refine Br.no ?_
    refine Br.yes ?_
    refine BslQ.o Ag (Ao Int) (by exact fun _=>⟨rfl,rfl⟩) (by first | rfl | (simp only [Aa,V.fz,fzL,V.up,upL,Ab,Ac,Ad,slr,List.cons_append,List.nil_append];done) | simp [Aa,V.fz,fzL,V.up,upL,Ab,Ac,Ad,slr]) ?_
    cases h;exact (by rfl)
   refine Br.yes ?_
   refine Br.yes ?_
   refine Br.yes ?_
   refine BslQ.o Ag (Ao Int) (by exact fun _=>⟨rfl,rfl⟩) (by first | rfl | (simp only [Aa,V.fz,fzL,V.up,upL,Ab,Ac,Ad,slr,List.cons_append,List.nil_append];done) | simp [Aa,V.fz,fzL,V.up,upL,Ab,Ac,Ad,slr]) ?_
   cases h;exact (by rfl)
  try dsimp only at h
  refine Br.flip ?_
  refine Br.ob h (fun p5 h=> ?_) (fun p5 h=> ?_)
  ·refine Br.no ?_
   refine Len.map ?_
   refine Ask.o h fun p6 h=> ?_
   refine Br.no ?_
   refine Br.no ?_
   cases h;exact (by rfl)
  refine Br.yes ?_
  refine Br.yes ?_
  refine Br.yes ?_
  refine BslQ.o Ag (Ao Int) (by exact fun _=>⟨rfl,rfl⟩) (by first | rfl | (simp only [Aa,V.fz,fzL,V.up,upL,Ab,Ac,Ad,slr,List.cons_append,List.nil_append];done) | simp [Aa,V.fz,fzL,V.up,upL,Ab,Ac,Ad,slr]) ?_
  cases h;exact (by rfl)
 refine BslQ.o Ag (Ao Int) (by exact fun _=>⟨rfl,rfl⟩) (by first | rfl | (simp only [Aa,V.fz,fzL,V.up,upL,Ab,Ac,Ad,slr,List.cons_append,List.nil_append];done) | simp [Aa,V.fz,fzL,V.up,upL,Ab,Ac,Ad,slr]) ?_
 cases h;exact (by rfl)
end Go.Proofs.Ytmkgjnphianalaa.Ax
