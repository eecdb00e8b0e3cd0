/-
 The law of simple algebras, on plain functions.
-/
import Derived.Test.YtjcekpmojnnmbaaGreatPB
import Derived.Test.YtjcekpmojnnmbaaGreatLSimple
namespace Go.Proofs.YtjcekpmojnnmbaaGreat.Ax
open Go Classical
section
variable {a:SAlgebra} {n:Nat} {O:List (List Int)} {q:List Int}
theorem Amw (n:Nat):Vf n (Ce n)=n:=by
 unfold Vf Wm Ct
 rw [List.length_map,List.filter_eq_self.2 fun i hi=>dtr0 (N3 (List.mem_range.1 hi)),List.length_range]
theorem Axz (hq:Bz n q):Vf n q<n↔q≠Ce n:=by
 constructor
 ·intro h e
  rw [e,Amw] at h
  omega
 ·intro h
  have:=Yq (E5 n) hq (Gs q) (fun e=>h e.symm)
  rw [Amw] at this
  exact this
theorem Atg (hg:Cf a) (hn:a.Size=n) (h:O4 a n O) {c:List Int} (hc:Jn n O (Ce n)=[c]) (hq:Gq a n q):decide (Bs n c q)=decide (Vf n q<n):=by
 obtain ⟨m1,m2⟩:=Aqy hg hn h hc
 obtain ⟨hcc,hcn⟩:=(Rg hg hn h).1 m1
 rw [decide_eq_decide,Axz hq.1]
 constructor
 ·intro hf e
  rw [e] at hf
  exact hcn (Mt hcc.1 (E5 n) hf (Gs c))
 ·intro hne
  exact m2 q ((Rg hg hn h).2 ⟨hq,hne⟩)
theorem A0i (hg:Cf a) (hn:a.Size=n) (h:O4 a n O) (h2:O.length=2):Jn n O (Ce n)=[We n]:=by
 obtain ⟨tl,e⟩:=Y6 hg hn h
 obtain ⟨ini,e'⟩:=A3g hg hn h
 have e1:O.drop 1=[We n]:=by
  have hl:tl.length=1:=by rw [e] at h2;simpa using h2
  match tl,hl with
  | [x],_=>
    have hx:We n=x:=by
     have h3:=congrArg List.getLast? (e.symm.trans e')
     simpa using h3.symm
    rw [e,hx];rfl
 exact Ave hg hn h (p:=We n) (by rw [e1];simp) fun q hq=>by
  rw [e1] at hq
  rw [List.mem_singleton.1 hq]
  exact Nf ((Amt hg hn).1)
end
theorem Aun {code:List Int} (h:code.length≤BIG ∧ ∀x∈code,0≤x∧x≤255):Kl code=some true:=by
 unfold Kl Sg
 simp only [obs0]
 by_cases hbig:(code.length:Int)>65536
 ·rw [if_pos (by simpa using hbig)]
 rw [if_neg (by simpa using hbig)]
 have hL:=Bn
 obtain ⟨a,ed,ha⟩:=Ait h.2 (by omega)
 have hs:=Aqk ha
 have ed':Fl code=some a:=by
  unfold Fl
  rw [ed];rfl
 rw [ed']
 simp only [obs0]
 have cs:(∃(n:Nat) (O:List (List Int)),Cf a∧a.Size=n∧FewC a n O)∨(Bc a=some (Aw (List Int),false)∧C3 a=some false):=by
  by_cases hg:Cf a
  ·have hn:a.Size=(a.Size.toNat:Nat):=by have:=hg.1;omega
   rcases Awx hs hg hn with ⟨O,hO⟩ | hb
   ·exact .inl ⟨_,O,hg,hn,hO⟩
   ·exact .inr hb
  ·refine .inr ⟨?_,?_⟩
   ·unfold Bc
    rw [Ya hs,dfa0 hg];rfl
   ·unfold C3
    rw [Akz hs,dfa0 hg];rfl
 rcases cs with ⟨n,O,hg,hn,hO⟩ | ⟨b1,b2⟩
 ·have h1:=hg.1
  have h8:=hg.2.1
  ·have hle:=hO.le
   obtain ⟨s1,s2⟩:=hO.simple hs hg
   obtain ⟨m1,m2,m3⟩:=hO.mono hs hg hn
   obtain ⟨w,w1,w2,w3,w4,w5⟩:=hO.width hs hg hn
   obtain ⟨a1,a2⟩:=hO.allC hs hg
   obtain ⟨c1,c2⟩:=hO.minI hs hg hn
   have hml:=Az1 hO (by omega)
   have hcr:=Asr hO (by omega) (Ce n)
   have hOr : ∀r∈O,r.length≤8:=fun r hr=>by have:=(hO.cl.ok r hr).1;omega
   rw [s1]
   simp only [obs0]
   refine J8 (a:= .inl ()) ?_ ?_
   ·rw [s2]
    simp only [obs0,beq_self_eq_true,if_true]
   dsimp only
   rw [m1]
   simp only [obs0]
   refine J8 (a:= .inl ()) ?_ ?_
   ·rw [m2]
    simp only [obs0,beq_self_eq_true,if_true]
    rw [Ail (by omega),dtr0 rfl]
    simp only [obs0,if_true]
   dsimp only
   rw [w1]
   simp only [obs0]
   refine J8 (a:= .inr ()) ?_ ?_
   ·rw [w2]
    simp only [obs0]
    rw [if_neg (by simp)]
    simp only [beq_self_eq_true,if_true]
   dsimp only
   rw [if_pos trivial,a1]
   simp only [obs0]
   refine J8 (a:= .inl ()) ?_ ?_
   ·rw [a2]
    simp only [obs0,beq_self_eq_true,if_true]
    rw [Ass (by omega) (fun t ht=>by have:=hOr t ht;omega)]
    simp only [obs0,if_true]
   dsimp only
   rw [c1]
   simp only [obs0]
   refine J8 (a:= .inl ()) ?_ ?_
   ·rw [c2]
    simp only [obs0,beq_self_eq_true,if_true]
    rw [Ass (by omega) (fun t ht=>by have:=hcr.2 t ht;omega)]
    simp only [obs0,if_true]
   dsimp only
   rw [m3]
   simp only [obs0]
   have hone:(Zp n O).2=(((Jn n O (Ce n)).length:Int)==1):=by
    unfold Zp
    cases hc:Ad8 (Jn n O (Ce n)) with
    | none=>
      have:=Amz hc
      exact (beq_eq_false_iff_ne.2 (by omega)).symm
    | some c=>rw [P1 hc];rfl
   refine J8 (a:= .inr ()) ?_ ?_
   ·rw [if_pos trivial,if_pos (by simp),if_pos (by rw [hone];simp),if_neg (by omega),if_neg (by omega),if_neg (by omega)]
   dsimp only
   refine J8 (a:= .inl ()) ?_ ?_
   ·by_cases h2:(O.length:Int)=2
    ·have e:=A0i hg hn hO.cl (by omega)
     have em:Zp n O=(We n,true):=by unfold Zp;rw [e];rfl
     rw [if_pos (by simp [h2]),em,if_pos rfl,hn,Ae (by omega),tna0,Ail (by simp;omega),dtr0 (by rfl)]
     simp only [obs0,if_true]
    ·rw [if_neg (by simpa using h2)]
   dsimp only
   cases hc:Ad8 (Jn n O (Ce n)) with
   | none=>
     have em:(Zp n O).2=false:=by unfold Zp;rw [hc]
     rw [em,if_neg (by simp)]
   | some c=>
     have em:Zp n O=(c,true):=by unfold Zp;rw [hc]
     rw [em,if_pos rfl]
     have hcov:=P1 hc
     have hcc:Gq a n c:=by
      have hm:c∈Jn n O (Ce n):=by rw [hcov];simp
      exact ((Aph hO.cl).1 hm).1
     have this:=H5 (body:=Dj a (c,true) (O,true)) (fun i=>(i:Int)) O.length (fun _=>False) () () (fun i hi _=>by
      have hq:=(hO.cl.2 _).1 (Ak hi)
      have hcl:=hcc.1.1
      have hql:=hq.1.1
      obtain ⟨B,eB,hB⟩:=Awn (n:=n) (by omega) hq.1
      have hlaw:=Atg hg hn hO.cl hcov hq
      have eF:Ja a.Size c (nth O i)=some (decide (Bs n c (nth O i)),true):=by
       unfold Ja Gw H7
       rw [hn,if_pos (show (n:Int)≥1 by omega),dtr0 (show (n:Int)≤8 by omega)]
       simp only [obs0,if_true]
       rw [Tg (by omega),dtr0 hcc.1]
       simp only [obs0,if_true]
       rw [Tg (by omega),dtr0 hq.1]
       simp only [obs0,if_true]
       rw [Acr ⟨hcc.1.1,hcc.1.inS⟩ ⟨hq.1.1,hq.1.inS⟩ (by omega)]
       rfl
      have eK:Hx a.Size (nth O i)=some (B,true):=by
       unfold Hx H7
       rw [hn,if_pos (show (n:Int)≥1 by omega),dtr0 (show (n:Int)≤8 by omega)]
       simp only [obs0,if_true]
       rw [Tg (by omega),dtr0 hq.1]
       simp only [obs0,if_true]
       rw [eB];rfl
      unfold Dj
      dsimp only
      rw [if_pos (by omega),Ae (by omega),tna0,eF]
      simp only [obs0]
      rw [Ae (by omega),eK]
      simp only [obs0,if_true]
      have e2:decide ((B.length:Int)<a.Size)=decide (Vf n (nth O i)<n):=by
       rw [decide_eq_decide,hB,hn];omega
      rw [e2,hlaw,if_pos (by simp),Ae (by unfold InI;omega)];rfl) (fun i _ hb=>absurd hb id) (by
      unfold Dj
      dsimp only
      rw [if_neg (by omega)]) 0 (by omega)
     have this':Al (Dj a (c,true) (O,true)) 0=_:=this
     rw [this',if_neg (by rintro ⟨i,_,_,h⟩;exact h)]
     rfl
 ·have i1:Fj a=some (false,false):=by unfold Fj;rw [b1];rfl
  have i2:Fi a=some (false,false):=by unfold Fi;rw [b2];rfl
  have i3:D1 a=some (Aw Int,false):=by unfold D1;rw [b1];rfl
  have i4:D0 a=some (Aw Int,false):=by unfold D0;rw [b2];rfl
  have i5:Bu a=some (0,false):=by unfold Bu;rw [b1];rfl
  have i6:Bv a=some (0,false):=by unfold Bv;rw [b2];rfl
  rw [i1]
  simp only [obs0]
  refine J8 (a:= .inl ()) (by rw [i2];rfl) ?_
  dsimp only
  rw [i3]
  simp only [obs0]
  refine J8 (a:= .inl ()) ?_ ?_
  ·rw [i4]
   simp only [obs0,beq_self_eq_true,if_true]
   rw [Ail (by simp [Aw]),dtr0 rfl]
   simp only [obs0,if_true]
  dsimp only
  rw [i5]
  simp only [obs0]
  refine J8 (a:= .inr ()) ?_ ?_
  ·rw [i6]
   simp only [obs0,beq_self_eq_true,if_true]
   rw [if_neg (by simp)]
  dsimp only
  rw [if_neg (by simp)]
  rfl
end Go.Proofs.YtjcekpmojnnmbaaGreat.Ax
