/-
 The law of conditions, on plain functions.
-/
import Derived.Test.YtaalgpkajkogkaaPB
import Derived.Test.YtaalgpkajkogkaaLConditions
namespace Go.Proofs.Ytaalgpkajkogkaa.Ax
open Go Classical
theorem Az4 {xss:List (List Int)} (h:xss.length<=LIM) (h1 : ∀r∈xss,r.length<=LIM):Kr xss xss=some true:=by
 have hL:=Ba;unfold Kr;rw [in0 (by simp)];have this:=Fo (body:=F3 xss xss) (λi=>(i:Int)) xss.length (λ_=>False) () () (λi hi _=>by
  unfold F3;rw [ip0 (by omega),Ag (by omega),Ag (by omega),tna0,Av0 (h1 _ (Ap hi)),dtr0 rfl];simp only [obs0,if_true];rw [Ag (by omega)];rfl) (λi _ hb=>absurd hb id) (by
  unfold F3;rw [in0 (by omega)]) 0 (by omega)
 have this':Aq (F3 xss xss) 0=_:=this;rw [this',in0 (by rintro ⟨i,_,_,h⟩;exact h)];rfl
theorem Aiz {α β:Type} {o:Option α} {a:α} {k:α->Option β} {r:Option β} (h:o=some a) (h2:k a=r):o.bind k=r:=by rw [h];exact h2
theorem A2s (a:SAlgebra) (c:SCondition):(Age a c).2=((K3 a c).2.2&&((K3 a c).2.1==2)):=by
 unfold Age K3;by_cases hk:okS a c
 ·rw [ip0 hk];by_cases h0:(Ky a c a.Size.toNat).e=0
  ·rw [ip0 ⟨hk,h0⟩,in0 (by omega),h0];rfl
  ·rw [in0 (λhh=>h0 hh.2)];by_cases h1:(Ky a c a.Size.toNat).e=1
   ·rw [ip0 h1];rfl
   ·rw [in0 h1];unfold stI;rw [in0 h0,in0 h1];rfl
 ·rw [in0 hk,in0 (λhh=>hk hh.1)];rfl
theorem Ayl (a:SAlgebra) (c:SCondition):(K3 a c).1.length<=150 /\ ∀st∈(K3 a c).1,st.Args.length<=3:=by
 unfold K3;by_cases hk:okS a c
 ·have hI:=Lo hk.set;rw [ip0 hk];by_cases h1:(Ky a c a.Size.toNat).e=1
  ·rw [ip0 h1];exact ⟨by show (Ky a c a.Size.toNat).S.length<=150;rw [hI.len];exact hI.sml,Apl hk.set hI⟩
  ·rw [in0 h1];exact ⟨by simp,by simp⟩
 ·rw [in0 hk];exact ⟨by simp,by simp⟩
theorem A0t (a:SAlgebra) (c:SCondition):(Age a c).1.length<=150 /\ ∀r∈(Age a c).1,r.length<=200:=by
 unfold Age;by_cases hk:okS a c/\(Ky a c a.Size.toNat).e=0
 ·have hI:=Lo hk.1.set;have hl:=hk.1.set.len;rw [ip0 hk];exact ⟨hI.sml,λr hr=>by have:=(hI.tabs r hr).1;omega⟩
 ·rw [in0 hk];exact ⟨by simp,by simp⟩
theorem A6y {a:SAlgebra} {c:SCondition} {l:List SCloneStep} (h:Agb a c l=(true,true)):(K3 a c).2.2=true:=by
 have hk:okS a c:=Classical.byContradiction λhk=>by unfold Agb at h;rw [in0 hk] at h;simp at h
 rw [hk.find];split<;>rfl
theorem A50 {a:SAlgebra} {c:SCondition} {l:List (List Int)} (h:Ul a c l=(true,true)):(K3 a c).2.2=true:=by
 have hk:okS a c:=Classical.byContradiction λhk=>by unfold Ul at h;rw [in0 (λhh=>hk hh.1)] at h;simp at h
 rw [hk.find];split<;>rfl
theorem Aor {code:List Int} (h:code.length<=BIG /\ ∀x∈code,0<=x/\x<=255):It code=some true:=by
 unfold It W1;simp only [obs0];by_cases hbig:(code.length:Int)>65536
 ·rw [ip0 (by simpa using hbig)]
 rw [in0 (by simpa using hbig)];have hL:=Ba;obtain ⟨a,c,e1,ha,hc⟩:=Aqp h.2 (by omega);obtain ⟨b,d,l,e2,hb,hd,hl,hls⟩:=Aq1 h.2 (by omega);obtain ⟨g,k,rows,e3,hg,hk,hr,hrs⟩:=Ah2 h.2 (by omega);have ha':=Sh ha;have hc':=Sl hc;have hb':=Sh hb;have hd':=Sl hd;have hg':=Sh hg;have hk':=Sl hk;obtain ⟨f1,f2⟩:=Ayl a c;obtain ⟨r1,r2⟩:=A0t a c;obtain ⟨o1,o2⟩:=Afe hb' hd' (steps:=l) (by omega) (λst hst=>by have:=hls st hst;omega);obtain ⟨i1,i2⟩:=Wf hg' hk' (rows:=rows) (by omega) (λr hr=>by have:=hrs r hr;omega);rw [e1];simp only [obs0];rw [Xn ha' hc',Aqn ha' hc'];simp only [obs0];rw [in0 (by simp),ip0 (by simp),A4g (by omega) (λst hst=>by have:=f2 st hst;omega)];simp only [obs0,if_true];rw [Aiq ha' hc',Ai4 ha' hc'];simp only [obs0,beq_self_eq_true,if_true];rw [Az4 (by omega) (λr hr=>by have:=r2 r hr;omega)];simp only [obs0,if_true];refine Aiz (a:= .inl ()) ?_ ?_
 ·rw [A2s a c];by_cases hf:(K3 a c).2.2=true
  ·rw [ip0 hf,hf];simp
  ·have hf':(K3 a c).2.2=false:=by simpa using hf
   rw [in0 hf,hf'];simp
 dsimp only;refine Aiz (a:= .inl ()) ?_ ?_
 ·by_cases hf:(K3 a c).2.2=true
  ·rw [ip0 hf];simp only [obs0];by_cases h1:(K3 a c).2.1=1
   ·have hA:=A0n hf h1;rw [ip0 (by rw [h1];rfl),(Afe ha' hc' (steps:=(K3 a c).1) (by omega) (λst hst=>by have:=f2 st hst;omega)).1,hA];simp
   ·rw [in0 (by simpa using h1)]
  ·rw [in0 hf];simp
 dsimp only;refine Aiz (a:= .inl ()) ?_ ?_
 ·by_cases hf:(Age a c).2=true
  ·have hB:=Avg hf;rw [ip0 hf,(Wf ha' hc' (rows:=(Age a c).1) (by omega) (λr hr=>by have:=r2 r hr;omega)).1,hB];simp
  ·rw [in0 hf]
 dsimp only;rw [e2];simp only [obs0];rw [o1,o2];simp only [obs0,beq_self_eq_true,if_true];refine Aiz (a:= .inr ()) ?_ ?_
 ·by_cases hf:(Agb b d l).2=true
  ·rw [ip0 hf];simp only [obs0];by_cases h1:(Agb b d l).1=true
   ·have hh:Agb b d l=(true,true):=Prod.ext h1 hf;rw [ip0 h1,Xn hb' hd'];simp only [obs0];rw [ip0 (A6y hh),in0 (Ayu hh)]
   ·rw [in0 h1]
  ·rw [in0 hf];simp
 dsimp only;rw [e3];simp only [obs0];rw [i1,i2];simp only [obs0,beq_self_eq_true,if_true];by_cases hf:(Ul g k rows).2=true
 ·rw [ip0 hf];simp only [obs0];by_cases h1:(Ul g k rows).1=true
  ·have hh:Ul g k rows=(true,true):=Prod.ext h1 hf;rw [ip0 h1,Xn hg' hk'];simp only [obs0];rw [ip0 (A50 hh),in0 (Awt hh)]
  ·rw [in0 h1]
 ·rw [in0 hf];simp
end Go.Proofs.Ytaalgpkajkogkaa.Ax
