/-
 The law of algebras of subpowers, on plain functions.
-/
import Derived.Test.YtmmcfdfdacpjgaaPB
import Derived.Test.YtmmcfdfdacpjgaaLSubpowerAlgebras
namespace Go.Proofs.Ytmmcfdfdacpjgaa.Ax
open Go Classical
theorem Acz {α β:Type} {o:Option α} {a:α} {k:α→Option β} {r:Option β} (h:o=some a) (h2:k a=r):o.bind k=r:=by rw [h];exact h2
section
variable {a:SAlgebra} {q:Int} {T:List (List Int)} {n w:Nat} (hr:Kq n w T) (h8:T.length≤8)
include hr h8
theorem A05 (code:List Int) {j:Nat} (hj:j<w) (r4:SAlgebra×Bool) (r10:Bool×Bool) (b:Bool) : ∃L,Am (B6 code (a,q,T) r4 r10 (j:Int) b) (0,Ar Int,Ar Int)=some (L,D0 T j)∧L.Nodup ∧ ∀x,x∈L↔x∈D0 T j:=by
 have hL:=Av
 have hcl:(D0 T j).length=T.length:=by simp [D0]
 obtain ⟨⟨L,M⟩,e,h1,h2,h3⟩:=Cc (body:=B6 code (a,q,T) r4 r10 (j:Int) b) (fun s => ∃i:Nat,s.1=(i:Int)∧i≤T.length∧s.2.2=(D0 T j).take i∧s.2.1.length≤i∧s.2.1.Nodup ∧ ∀x,x∈s.2.1↔x∈(D0 T j).take i) (fun s=>T.length-s.1.toNat) (fun u=>u.2=D0 T j∧u.1.Nodup ∧ ∀x,x∈u.1↔x∈D0 T j) (by
  rintro ⟨y,L,M⟩ ⟨i,hy,hi,hM,hLl,hd,hm⟩
  dsimp only at hy hM hLl hd hm
  subst hy hM
  unfold B6
  dsimp only
  by_cases h:i<T.length
  ·obtain ⟨r1,r2⟩:=hr.row _ (As h)
   have ev:nth (nth T i) j=nth (D0 T j) i:=by unfold D0;rw [Dr _ h]
   have et:(D0 T j).take (i+1)=(D0 T j).take i++[nth (D0 T j) i]:=Dx (by rw [hcl];exact h)
   rw [if_pos (by omega),Ag (by omega),Int.toNat_natCast,Int.toNat_natCast,Ag (by omega),Ag (by simp;omega),Ag (by omega),Ag (by omega),A0w (by omega),ev]
   simp only [Option.bind_some]
   by_cases hx:nth (D0 T j) i∈L
   ·rw [if_pos (by rw [decide_eq_true_eq];exact hx),Ag (by unfold InI;omega)]
    refine .inl ⟨_,rfl,⟨i+1,rfl,h,et.symm,by dsimp only;omega,hd,fun x=> ?_⟩,by dsimp only;omega⟩
    dsimp only
    rw [et,List.mem_append,List.mem_singleton,hm]
    exact ⟨.inl,fun h=>h.elim id fun e=>by rw [e];exact (hm _).1 hx⟩
   ·rw [if_neg (by rw [decide_eq_true_eq];exact hx),Ag (by omega),Ag (by omega),Ag (by simp;omega),Ag (by unfold InI;omega)]
    refine .inl ⟨_,rfl,⟨i+1,rfl,h,et.symm,by simp;omega,?_,fun x=> ?_⟩,by dsimp only;omega⟩
    ·dsimp only
     rw [List.nodup_append]
     refine ⟨hd,by simp,fun x hx1 y hy e=> ?_⟩
     rw [List.mem_singleton.1 hy] at e
     exact hx (e▸hx1)
    ·dsimp only
     rw [et,List.mem_append,List.mem_append,List.mem_singleton,hm]
  ·have e:(D0 T j).take i=D0 T j:=List.take_of_length_le (by omega)
   rw [if_neg (by omega)]
   exact .inr ⟨_,rfl,e,hd,fun x=>by rw [hm,e]⟩) (s:=((0:Int),Ar Int,Ar Int)) ⟨0,rfl,Nat.zero_le _,rfl,Nat.le_refl _,List.nodup_nil,fun x=>by simp [Ar]⟩
 dsimp only at h1 h2 h3
 subst h1
 exact ⟨L,e,h2,h3⟩
end
theorem A1d (code:List Int) {a:SAlgebra} {q:Int} {T:List (List Int)} (hP:Aid a q T) (h1:1≤T.length) (h8:T.length≤8) :
  Am (Bu code (a,q,T) (Wy a q T) (Ale a q T)) (0,true)=some (.inr (decide (Yl a.Size.toNat q.toNat T))):=by
 have hL:=Av
 obtain ⟨ga,q1,q2,hS⟩:=hP
 have hn:a.Size=(a.Size.toNat:Int):=by have:=ga.1;omega
 have hq:q=(q.toNat:Int):=by omega
 have ea:Wy a q T=(Ve a a.Size.toNat q.toNat T,true):=by unfold Wy;rw [if_pos ⟨⟨ga,q1,q2,hS⟩,h1,h8⟩]
 have key:=B9 (body:=Bu code (a,q,T) (Wy a q T) (Ale a q T)) (fun j=>((j:Int),decide (Yl a.Size.toNat j T))) q.toNat (.inr (decide (Yl a.Size.toNat q.toNat T))) (fun j hj=>by
  obtain ⟨L,el,hd,hm⟩:=A05 (a:=a) (q:=q) (n:=a.Size.toNat) hS.2.1 h8 code hj (Wy a q T) (Ale a q T) (decide (Yl a.Size.toNat j T))
  have hin:=Apv hS.2.1 hj
  have hf:=Azl (n:=a.Size.toNat) hd fun x hx=>hin x ((hm x).1 hx)
  unfold Bu
  dsimp only
  rw [if_pos (by omega),el]
  simp only [Option.bind_some]
  rw [ea,Azf ga hn hS h1 h8 hj]
  simp only [Option.bind_some,if_true]
  by_cases hb:Yl a.Size.toNat j T
  ·rw [if_pos (by rw [decide_eq_true_eq];exact hb),Ag (by unfold InI;omega)]
   congr 3
   rw [Bool.eq_iff_iff,beq_iff_eq,decide_eq_true_eq]
   constructor
   ·intro hl i hi x hx
    rcases Nat.lt_succ_iff_lt_or_eq.1 hi with hi | rfl
    ·exact hb i hi x hx
    ·exact (hm _).1 (hf.1 (by omega) x hx)
   ·intro hh
    have:=hf.2 fun x hx=>(hm _).2 (hh j (by omega) x hx)
    omega
  ·rw [if_neg (by rw [decide_eq_true_eq];exact hb),Ag (by unfold InI;omega)]
   congr 3
   symm
   rw [decide_eq_false_iff_not]
   exact fun hh=>hb fun i hi=>hh i (by omega)) (by
  unfold Bu
  dsimp only
  rw [if_neg (by omega)])
 have e0:decide (Yl a.Size.toNat 0 T)=true:=decide_eq_true fun i hi=>absurd hi (Nat.not_lt_zero _)
 rw [e0] at key
 exact key
theorem A1m {a:SAlgebra} {op:Int} {T:List (List Int)} {n w:Nat} (hr:Kq n w T) (hl:T.length≤3) (r:List Int×Bool) {j:Nat} (hj:j<w):Am (Bs (a,op,T) r (j:Int)) (0,Ar Int)=some (D0 T j):=by
 have hL:=Av
 have hcl:(D0 T j).length=T.length:=by simp [D0]
 have key:=B9 (body:=Bs (a,op,T) r (j:Int)) (fun i=>((i:Int),(D0 T j).take i)) T.length (D0 T j) (fun i hi=>by
  obtain ⟨r1,r2⟩:=hr.row _ (As hi)
  have ev:nth (nth T i) j=nth (D0 T j) i:=by unfold D0;rw [Dr _ hi]
  unfold Bs
  dsimp only
  rw [if_pos (by omega),Ag (by omega),Int.toNat_natCast,Int.toNat_natCast,Ag (by omega),Ag (by simp;omega),Ag (by unfold InI;omega),Dx (by rw [hcl];exact hi),ev]
  rfl) (by
  unfold Bs
  dsimp only
  rw [if_neg (by omega),List.take_of_length_le (by omega)])
 exact key
theorem A1i {a:SAlgebra} {op:Int} {T:List (List Int)} (ha:Ku a) (hl:T.length≤3) (h:atP a op T):Am (Bt (a,op,T) (atR a op T)) 0=some (.inr ()):=by
 have hL:=Av
 obtain ⟨⟨ga,o1,o2⟩,h0,hTl,w1,w2,hro⟩:=h
 have hn:a.Size=(a.Size.toNat:Int):=by have:=ga.1;omega
 have ho:op=(op.toNat:Int):=by omega
 obtain ⟨p1,p2,p3,_⟩:=Km ga hn (i:=op.toNat) (by omega)
 have hro':Kq (a.Size.toNat:Int) ((nth T 0).length:Int) T:=hn▸hro
 have ea:atR a op T=(apV T a.Size.toNat (nth T 0).length (nth a.Ops op.toNat) (arQ a op.toNat),true):=by unfold atR;rw [if_pos ⟨⟨ga,o1,o2⟩,h0,hTl,w1,w2,hro⟩]
 rw [ea]
 have hlen:(apV T a.Size.toNat (nth T 0).length (nth a.Ops op.toNat) (arQ a op.toNat)).length=(nth T 0).length:=Sz _ _ _ _ _
 have key:=B9 (body:=Bt (a,op,T) (apV T a.Size.toNat (nth T 0).length (nth a.Ops op.toNat) (arQ a op.toNat),true)) (fun j=>(j:Int)) (nth T 0).length (.inr ()) (fun j hj=>by
  have hcl:(D0 T j).length=T.length:=by simp [D0]
  have hin:=Apv hro' hj
  have hv:=Aoc ha ga hn (i:=op.toNat) (r:=arQ a op.toNat) (by omega) p3 p2 p1.len (xs:=D0 T j) (by omega) hin
  rw [←ho] at hv
  have ev:nth (apV T a.Size.toNat (nth T 0).length (nth a.Ops op.toNat) (arQ a op.toNat)) j=nth (nth a.Ops op.toNat).Table (Hr a.Size.toNat (D0 T j)).toNat:=by
   show nth ((List.range (nth T 0).length).map _) j=_
   rw [Dr _ (by simpa using hj),Ma hj]
   congr 2
   unfold hT
   congr 1
   refine Pf (by simp;omega) fun i hi=> ?_
   rw [List.length_map,List.length_range] at hi
   rw [Dr _ (by simpa using hi),Ma hi]
   unfold D0
   rw [Dr _ (by omega)]
  unfold Bt
  dsimp only
  rw [hlen,if_pos (by omega),A1m hro' hl _ hj]
  simp only [Option.bind_some]
  rw [hv]
  simp only [Option.bind_some,if_true]
  rw [Ag (by omega),Int.toNat_natCast,ev,if_neg (by simp),Ag (by unfold InI;omega)]
  rfl) (by
  unfold Bt
  dsimp only
  rw [hlen,if_neg (by omega)])
 exact key
theorem Yp {code:List Int} (h:code.length≤BIG ∧ ∀x∈code,0≤x∧x≤255):Ej code=some true:=by
 unfold Ej S4
 simp only [Option.bind_some]
 by_cases hbig:(code.length:Int)>65536
 ·rw [if_pos (by simpa using hbig)]
 rw [if_neg (by simpa using hbig)]
 have hL:=Av
 obtain ⟨a,q,T,ed,ta,hl,hr⟩:=A0l h.2 (by omega)
 have sa:=Ty ta
 have hr' : ∀t∈T,t.length≤1048576:=fun t ht=>by have:=hr t ht;omega
 obtain ⟨e1,e2⟩:=A0f (k:=q) sa (T:=T) (by omega) hr'
 obtain ⟨d1,d2⟩:=Ayz (k:=q) sa (T:=T) (by omega) hr'
 rw [ed]
 simp only [Option.bind_some]
 rw [e1]
 simp only [Option.bind_some]
 have hok:(Wy a q T).2=true→Aid a q T∧1≤T.length∧T.length≤8:=fun h=>by
  unfold Wy at h
  split at h
  ·assumption
  ·cases h
 have hal:G2 (Wy a q T).1 (Wy a q T).1=some true:=by
  by_cases c:Aid a q T∧1≤T.length∧T.length≤8
  ·have ea:Wy a q T=(Ve a a.Size.toNat q.toNat T,true):=by unfold Wy;rw [if_pos c]
   rw [ea]
   obtain ⟨⟨ga,q1,q2,hS⟩,c1,c8⟩:=c
   have hn:a.Size=(a.Size.toNat:Int):=by have:=ga.1;omega
   have s2:=Wf (Am5 ga hn hS c1 c8)
   exact Av2 s2.1 s2.2
  ·have ea:Wy a q T=({ Size:=0,Ops:=[] },false):=by unfold Wy;rw [if_neg c]
   rw [ea]
   exact Av2 (by simp) (fun f hf=>by cases hf)
 refine Acz (a:= .inl ()) ?_ ?_
 ·rw [e2]
  simp only [Option.bind_some,beq_self_eq_true,if_true]
  rw [hal]
  simp only [Option.bind_some,if_true]
 dsimp only
 rw [d1]
 simp only [Option.bind_some]
 refine Acz (a:= .inl ()) ?_ ?_
 ·rw [d2]
  simp only [Option.bind_some,beq_self_eq_true,if_true]
  by_cases c:(Wy a q T).2=true
  ·have ed:Ale a q T=(decide (Yl a.Size.toNat q.toNat T),true):=by unfold Ale;rw [if_pos (hok c).1]
   rw [if_pos c,ed]
   simp only [if_true]
  ·rw [if_neg c]
 dsimp only
 refine Acz (a:= .inr ()) ?_ ?_
 ·by_cases c:(Wy a q T).2=true
  ·obtain ⟨c0,c1,c8⟩:=hok c
   have ed:Ale a q T=(decide (Yl a.Size.toNat q.toNat T),true):=by unfold Ale;rw [if_pos c0]
   rw [if_pos c,A1d code c0 c1 c8]
   simp only [Option.bind_some]
   rw [ed]
   simp only [beq_self_eq_true,if_true]
  ·rw [if_neg c]
 dsimp only
 obtain ⟨a3,op,T3,ed3,ta3,hl3,hr3⟩:=Al5 h.2 (by omega)
 have sa3:=Ty ta3
 obtain ⟨f1,f2⟩:=Apc (op:=op) sa3 (by have:=ta3.1;omega) (T:=T3) (by omega) fun t ht=>by have:=hr3 t ht;omega
 rw [ed3]
 simp only [Option.bind_some]
 rw [f1]
 simp only [Option.bind_some]
 have hvl:(atR a3 op T3).1.length≤LIM:=by
  by_cases c:atP a3 op T3
  ·unfold atR
   rw [if_pos c]
   rw [Sz]
   have:=c.2.2.2.2.1
   omega
  ·unfold atR
   rw [if_neg c]
   simp
 refine Acz (a:= .inl ()) ?_ ?_
 ·rw [f2]
  simp only [Option.bind_some,beq_self_eq_true,if_true]
  rw [Aro hvl]
  simp only [Option.bind_some,if_true]
 dsimp only
 by_cases c:(atR a3 op T3).2=true
 ·have hat:atP a3 op T3:=by
   unfold atR at c
   split at c
   ·assumption
   ·cases c
  rw [if_pos c,A1i sa3 hl3 hat]
  rfl
 ·rw [if_neg c]
end Go.Proofs.Ytmmcfdfdacpjgaa.Ax
