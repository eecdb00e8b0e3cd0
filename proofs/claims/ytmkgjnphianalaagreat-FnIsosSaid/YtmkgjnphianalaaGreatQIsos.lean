/-
 The law of isomorphisms, on plain functions.
-/
import Derived.Test.YtmkgjnphianalaaGreatPB
import Derived.Test.YtmkgjnphianalaaGreatLIsos
namespace Go.Proofs.YtmkgjnphianalaaGreat.Ax
open Go Classical
theorem Adn {xss:List (List Int)} (h:xss.length<=LIM) (h1 : ∀r∈xss,r.length<=LIM):Gi xss xss=some true:=by
 have hL:=Az;unfold Gi;rw [in0 (by simp)];have this:=Fe (body:=Fd xss xss) (λi=>(i:Int)) xss.length (λ_=>False) () () (λi hi _=>by
  unfold Fd;rw [ip0 (by omega),Af (by omega),Af (by omega),tna0,Aze (h1 _ (Ao hi))];simp only [obs0,if_true];rw [Af (by omega)];rfl) (λi _ hb=>absurd hb id) (by
  unfold Fd;rw [in0 (by omega)]) 0 (by omega)
 have this':Aj (Fd xss xss) 0=_:=this;rw [this',in0 (by rintro ⟨i,_,_,h⟩;exact h)];rfl
theorem A7v {a b:SAlgebra} (ha:Du a) (hb:Du b) {f:List Int} (hl:f.length<=LIM) (h:I3 a b):N6 a b f=some (decide (Oo a b f),true):=by unfold N6;rw [Amw ha hb,show (decide (B8 a/\B8 b/\C4 a=C4 b))=true from dtr0 h];simp only [obs0,if_true];rw [A94 h hl];rfl
theorem T4 {α β:Type} {o:Option α} {a:α} {k:α->Option β} {r:Option β} (h:o=some a) (h2:k a=r):o.bind k=r:=by rw [h];exact h2
theorem Auh {code:List Int} (hc : ∀x∈code,0<=x/\x<=255) (hl:code.length<=65536) : ∃a f,Dk code=some (a,f)/\Jm a/\f.length<=100:=by
 unfold Dk;obtain ⟨a,d,e,hd,ha⟩:=N5 (A14 hc hl) (by omega);rw [e];simp only [obs0];unfold Oz;have key : ∀z:Int,z<=9 -> ∃f d2,Co d z=some (f,d2)/\f.length<=100:=by
  intro z hz;rcases Int.lt_or_le z 0 with hneg | h0
  ·unfold Co;have e1:Aj (Cv z) (0,Al Int,d)=some (Al Int,d):=by
    refine Cn ?_;unfold Cv;dsimp only;rw [in0 (by omega)]
   rw [e1];simp only [obs0];obtain ⟨r,d2,e2,hd2,a1,a2⟩:=Fc hd (by omega) 24;rw [e2];simp only [obs0];have hL:=Az;by_cases h1:r=0
   ·rw [ip0 h1,Af (by simp [Al];omega)];exact ⟨_,_,rfl,by simp [Al]⟩
   ·rw [in0 h1];by_cases h2:r=1
    ·rw [ip0 h2,in0 (by omega)];exact ⟨_,_,rfl,by simp [Al]⟩
    ·rw [in0 h2];exact ⟨_,_,rfl,by simp [Al]⟩
  ·obtain ⟨l,d2,e2,_,hl2⟩:=Aou hd (by omega) z.toNat (by omega);rw [show ((z.toNat:Nat):Int)=z by omega] at e2;exact ⟨l,d2,e2,by omega⟩
 by_cases h9:a.Size<9
 ·rw [ip0 h9];simp only [obs0];obtain ⟨f,d2,e2,hf⟩:=key a.Size (by omega);rw [e2];exact ⟨_,_,rfl,ha,hf⟩
 ·rw [in0 h9];simp only [obs0];obtain ⟨f,d2,e2,hf⟩:=key 9 (by omega);rw [e2];exact ⟨_,_,rfl,ha,hf⟩
theorem Auk {a:SAlgebra} (h:Du a) {f:List Int} (hl:f.length<=LIM) : ∃r,Ew a f=some r/\Du r.1/\(r.2=true->Aez a r.1 f):=by
 unfold Ew;rw [Nc h];simp only [obs0];by_cases ga:B8 a
 ·obtain ⟨n,hn⟩:=Int.eq_ofNat_of_zero_le (show 0<=a.Size by have:=ga.1;omega);have hn8:n<=8:=by have:=ga.2.1;omega
  rw [dtr0 ga,hn];simp only [if_true];rw [A0o hl _ (by omega)];simp only [obs0];by_cases hp:(f.length:Int)=n/\Bm f n/\uniq f
  ·have P:Perm f n:=⟨by omega,hp.2.1,hp.2.2⟩
   rw [dtr0 hp];simp only [if_true];rw [A6e h ga hn P];refine ⟨_,rfl,⟨by dsimp only;rw [List.length_map];exact h.1,λo ho=> ?_⟩,λ_=>A8u ga hn P⟩;dsimp only at ho;obtain ⟨g,hg,rfl⟩:=List.mem_map.1 ho;have:=h.2 g hg;unfold Iu;dsimp only;rw [R3,List.length_replicate];exact this
  ·rw [dfa0 hp];exact ⟨(⟨0,[]⟩,false),by simp,⟨by simp,λo ho=>by cases ho⟩,λhc=>by cases hc⟩
 ·rw [dfa0 ga];exact ⟨(⟨0,[]⟩,false),by simp,⟨by simp,λo ho=>by cases ho⟩,λhc=>by cases hc⟩
theorem A5p {code:List Int} (h:code.length<=BIG /\ ∀x∈code,0<=x/\x<=255):Qk code=some true:=by
 unfold Qk Vp;simp only [obs0];by_cases hbig:(code.length:Int)>65536
 ·rw [ip0 (by simpa using hbig)]
 rw [in0 (by simpa using hbig)];have hL:=Az;obtain ⟨a,b,ed,ta,tb⟩:=Au8 h.2 (by omega);obtain ⟨c,f,ed2,tc,hf⟩:=Auh h.2 (by omega);have sa:=Qz ta;have sb:=Qz tb;have sc:=Qz tc;have ed':Dv code=some (a,b):=by unfold Dv;rw [ed];rfl
 rw [ed'];simp only [obs0];rw [M2 sa sb];simp only [obs0];refine T4 (a:= .inl ()) ?_ ?_
 ·rw [Aew sa sb];simp only [obs0,beq_self_eq_true,if_true]
 dsimp only;refine T4 (a:= .inl ()) ?_ ?_
 ·rw [M2 sb sa];simp only [obs0];by_cases h1:(Aa0 a b).2=true
  ·rw [ip0 h1];by_cases h2:(Aa0 b a).2=true
   ·rw [ip0 h2,A66 h1 h2];simp only [beq_self_eq_true,if_true]
   ·rw [in0 h2]
  ·rw [in0 h1]
 dsimp only;obtain ⟨i1,i2⟩:=Aqb sa sb;rw [i1];simp only [obs0];refine T4 (a:= .inl ()) ?_ ?_
 ·rw [i2];simp only [obs0,beq_self_eq_true,if_true];rw [Aze (by have:=A1w (a:=a) (b:=b);omega)];simp only [obs0,if_true];by_cases h1:(Aa0 a b).2=true
  ·rw [ip0 h1,A4v h1];simp only [beq_self_eq_true,if_true]
  ·rw [in0 h1]
 dsimp only;rw [ed2];simp only [obs0];obtain ⟨r,er,sr,hr⟩:=Auk sc (f:=f) (by omega);rw [er];simp only [obs0];refine T4 (a:= .inl ()) ?_ ?_
 ·by_cases h1:r.2=true
  ·have hI:=hr h1;rw [ip0 h1,A7v sc sr (by omega) hI.1.1,dtr0 hI.1];simp only [obs0,if_true];rw [M2 sc sr];simp only [obs0];by_cases h2:(Aa0 c r.1).2=true
   ·rw [ip0 h2,(Aiy h2).2 ⟨f,hI⟩];rfl
   ·rw [in0 h2]
  ·rw [in0 h1]
 dsimp only;rw [Uv sc];simp only [obs0];obtain ⟨q1,q2⟩:=Ajm (a:=c) (b:=c) true;obtain ⟨p1,p2⟩:=Ajm (a:=c) (b:=c) false;obtain ⟨o1,o2,o3⟩:=A3h (a:=c);obtain ⟨t1,t2,t3⟩:=A46 (a:=c);refine T4 (a:= .inl ()) ?_ ?_
 ·rw [Afd sc];simp only [obs0,beq_self_eq_true,if_true];unfold Fm;rw [Adn (by omega) (λr hr=>by have:=q2 r hr;omega)];rfl
 dsimp only;rw [Ax4 sc];simp only [obs0];refine T4 (a:= .inl ()) ?_ ?_
 ·rw [Ay0 sc];simp only [obs0,beq_self_eq_true,if_true,o1];rw [Adn (by omega) (λr hr=>by have:=(o3 r hr).1;omega)];rfl
 dsimp only;have key:=Bp (body:=E5 (c,f) (Fm c) (Afo c)) (λi=>(i:Int)) (Afo c).1.length (.inr ()) (λi hi=>by
  obtain ⟨k1,k2,K,k3⟩:=o3 _ (Ao hi);unfold E5;rw [ip0 (by omega),Af (by omega),tna0,in0 (by omega),Af (by omega),Af (by omega),in0 (by rw [k3];have:(((nth (Afo c).1 i).length*K:Nat):Int).tmod ((nth (Afo c).1 i).length:Int)=((((nth (Afo c).1 i).length*K)%(nth (Afo c).1 i).length:Nat):Int):=rfl;rw [this,Nat.mul_mod_right];simp),Af (by omega)];rfl) (by
  unfold E5;rw [in0 (by omega)])
 have key':Aj (E5 (c,f) (Fm c) (Afo c)) 0=some (.inr ()):=key;rw [key'];simp only [obs0];obtain ⟨e1,e2⟩:=Ahb sc sc;have ee:Df c=some (Ge c c false):=by unfold Df;rw [e1];rfl
 have es:Fr c=some (Ge c c false):=by unfold Fr;rw [e2];rfl
 rw [ee];simp only [obs0];refine T4 (a:= .inl ()) ?_ ?_
 ·rw [es];simp only [obs0,beq_self_eq_true,if_true];rw [Adn (by omega) (λr hr=>by have:=p2 r hr;omega)];rfl
 dsimp only;obtain ⟨g1,g2⟩:=Ai1 sc;rw [g1,g2];simp only [obs0,beq_self_eq_true,if_true,t1];rw [Adn (by omega) (λr hr=>by have:=t3 r hr;omega)];rfl
end Go.Proofs.YtmkgjnphianalaaGreat.Ax
