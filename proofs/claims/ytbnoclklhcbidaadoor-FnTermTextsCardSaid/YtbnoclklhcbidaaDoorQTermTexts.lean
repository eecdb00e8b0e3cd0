/-
 The law of the texts of terms, on plain functions.
-/
import Derived.Test.YtbnoclklhcbidaaDoorPB
import Derived.Test.YtbnoclklhcbidaaDoorLTermTexts
namespace Go.Proofs.YtbnoclklhcbidaaDoor.Ax
open Go Classical
theorem Amk {xss:List (List Int)} (h:xss.length≤LIM) (h1 : ∀r∈xss,r.length≤LIM):It xss xss=some true:=by
 have hL:=Co
 unfold It
 rw [if_neg (by simp)]
 have this:=H6 (body:=Dx xss xss) (fun i=>(i:Int)) xss.length (fun _=>False) () () (fun i hi _=>by
  unfold Dx
  rw [if_pos (by omega),Ae (by omega),Ae (by omega),Int.toNat_natCast,Tx (h1 _ (Cf hi))]
  simp only [Option.bind_some,if_true]
  rw [Ae (by unfold InI;omega)];rfl) (fun i _ hb=>absurd hb id) (by
  unfold Dx
  rw [if_neg (by omega)]) 0 (by omega)
 have this':A7 (Dx xss xss) 0=_:=this
 rw [this',if_neg (by rintro ⟨i,_,_,h⟩;exact h)]
 rfl
theorem T9 {α β:Type} {o:Option α} {a:α} {k:α→Option β} {r:Option β} (h:o=some a) (h2:k a=r):o.bind k=r:=by rw [h];exact h2
theorem As8 {z:Int} (h:z = -1∨z=0∨z=1):IntKind.i64.wrap (0-z) = -z:=by
 rcases h with rfl | rfl | rfl<;>rfl
theorem Ana (s t:List Int):S8 s t = -1∨S8 s t=0∨S8 s t=1:=by
 unfold S8
 split
 ·exact .inl rfl
 ·split
  ·exact .inr (.inr rfl)
  ·exact Ae3 s t
theorem Au3 {code:List Int} {r38:SAlgebra×List Int×List Int} {m:List (List Int)} {b:Bool} (hm:m.length≤6) :
  A7 (Ci code r38 (m,b)) (0,A4 (List Int))=some (fuF m):=by
 have hL:=Co
 have key:=Np (body:=Ci code r38 (m,b)) (fun i=>((i:Int),(fuF m).take i)) m.length (fuF m) (fun i hi=>by
  have hn:=Jx (xs:=fuF m) (i:=i) (by rw [T6];exact hi)
  rw [Aiu hi] at hn
  unfold Ci
  dsimp only
  rw [if_pos (by omega),Ae (by omega),Int.toNat_natCast]
  by_cases he:nth m i=[]
  ·rw [if_pos he] at hn
   rw [if_pos (by rw [he];rfl),Ae (by simp;omega),Ae (by unfold InI;omega),hn];rfl
  ·rw [if_neg he] at hn
   have:=List.length_pos_iff.2 he
   rw [if_neg (by omega),Ae (by omega),Ae (by simp;omega),Ae (by unfold InI;omega),hn];rfl) (by
  unfold Ci
  dsimp only
  rw [if_neg (by omega),List.take_of_length_le (by rw [T6];omega)])
 exact key
theorem Aff {code:List Int} (h:code.length≤BIG ∧ ∀x∈code,0≤x∧x≤255):Gs code=some true:=by
 unfold Gs Oz
 simp only [Option.bind_some]
 by_cases hbig:(code.length:Int)>65536
 ·rw [if_pos (by simpa using hbig)]
 rw [if_neg (by simpa using hbig)]
 have hL:=Co
 obtain ⟨a,t,ed,ha,ht41⟩:=Afn h.2 (by omega)
 obtain ⟨b,s,ed2,hb,hs⟩:=Adx h.2 (by omega)
 obtain ⟨c,p,u,ed3,hc⟩:=Ac9 h.2 (by omega)
 obtain ⟨d,x,y,ed4,hd⟩:=Xx h.2 (by omega)
 have hsa:=Hg ha
 have hsb:=Hg hb
 have hsc:=Hg hc
 have hsd:=Hg hd
 obtain ⟨t1,t2⟩:=V9 hsa (t:=t)
 obtain ⟨n1,n2⟩:=Aax hsa (t:=t)
 obtain ⟨r27,p1,p2,p3,p4,_⟩:=Aem hsb (s:=s) (by omega)
 obtain ⟨⟨m,mb⟩,m1,m2,m3,m4,m5⟩:=Anj hsc (pat:=p) (t:=u)
 obtain ⟨c1,c2⟩:=Xo hsd (s:=x) (t:=y)
 obtain ⟨c3,_⟩:=Xo hsd (s:=y) (t:=x)
 rw [ed]
 simp only [Option.bind_some]
 rw [t1,t2,n1,n2]
 simp only [Option.bind_some,beq_self_eq_true,if_true]
 have hv1:(if B0 a∧isT a t then (nvF [] t,true) else ([],false)).1.length≤LIM:=by
  split
  ·show (nvF [] t).length≤LIM
   rw [Acq];omega
  ·simp
 refine T9 (a:= .inl ()) ?_ ?_
 ·rw [Tx hv1]
  by_cases hok:B0 a∧isT a t
  ·rw [if_pos hok,if_pos hok];rfl
  ·rw [if_neg hok,if_neg hok];rfl
 dsimp only
 refine T9 (a:= .inl ()) ?_ ?_
 ·by_cases hok:B0 a∧isT a t
  ·obtain ⟨r17,q1,_,_,_,q5⟩:=Aem hsa (s:=mkB (txT a t)) (by have:=Aj9 hok.2;omega)
   have q6:=q5 t hok.1 hok.2 rfl
   obtain ⟨w1,_⟩:=Aax hsa (t:=nvF [] t)
   rw [if_pos hok,if_pos hok]
   dsimp only
   rw [if_pos rfl,q1,q6,w1,if_pos ⟨hok.1,Awi hok.2⟩,Ax6]
   simp only [Option.bind_some,if_true]
   rw [Tx (by have:=hok.2.1;omega)]
   simp only [Option.bind_some,if_true]
   rw [Tx (by rw [Acq];have:=hok.2.1;omega)]
   rfl
  ·rw [if_neg hok,if_neg hok];rfl
 dsimp only
 rw [ed2]
 simp only [Option.bind_some]
 rw [p1,p2]
 simp only [Option.bind_some,beq_self_eq_true,if_true]
 rw [Tx (by omega)]
 simp only [Option.bind_some,if_true]
 refine T9 (a:= .inl ()) ?_ ?_
 ·by_cases hr:r27.2=true
  ·obtain ⟨g1,g2,g3⟩:=p4 hr
   rw [if_pos hr,(V9 hsb (t:=r27.1)).1,if_pos ⟨g1,g2⟩,g3]
   simp
  ·rw [if_neg hr]
 dsimp only
 rw [ed3]
 simp only [Option.bind_some]
 rw [m1,m2]
 simp only [Option.bind_some,beq_self_eq_true,if_true]
 dsimp only at m3 m4 m5
 rw [Amk (by omega) (fun r hr=>by have:=m4 r hr;omega)]
 simp only [Option.bind_some,if_true]
 refine T9 (a:= .inl ()) ?_ ?_
 ·by_cases hr:mb=true
  ·obtain ⟨g1,g2,g3,g4⟩:=m5 hr
   have hm6:=g4.len
   rw [if_pos hr,Au3 (by omega)]
   simp only [Option.bind_some]
   rw [(Rp hsc (t:=p) (ts:=fuF m) (by rw [T6];omega)).1,Axe g1 g2 g3 g4]
   simp only [Option.bind_some,if_true]
   rw [Tx (by have:=g3.1;omega)]
   rfl
  ·rw [if_neg hr]
 dsimp only
 rw [ed4]
 simp only [Option.bind_some]
 rw [c1,c2]
 simp only [Option.bind_some]
 rw [if_neg (by simp),if_pos (by simp)]
 rw [c3]
 simp only [Option.bind_some]
 by_cases hok:B0 d∧isT d x∧isT d y
 ·have hok2:B0 d∧isT d y∧isT d x:=⟨hok.1,hok.2.2,hok.2.1⟩
  simp only [if_pos hok,if_pos hok2,beq_self_eq_true,if_true]
  rw [As8 (Ana x y),Ald x y]
  simp
 ·have hok2:¬(B0 d∧isT d y∧isT d x):=fun hh=>hok ⟨hh.1,hh.2.2,hh.2.1⟩
  simp only [if_neg hok,if_neg hok2,beq_self_eq_true,if_true]
  rfl
end Go.Proofs.YtbnoclklhcbidaaDoor.Ax
