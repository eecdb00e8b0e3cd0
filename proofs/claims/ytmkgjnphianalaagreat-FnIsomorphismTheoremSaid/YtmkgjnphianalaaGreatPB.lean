/-
 Plain facts, joined.
-/
import Derived.Test.YtmkgjnphianalaaGreatPA
namespace Go.Proofs.YtmkgjnphianalaaGreat.Ax
open Go Classical
theorem Baa {n:Nat} (h:n<=20):(2:Nat)^n<=1048576:=by have:(2:Nat)^n<=2^20:=Nat.pow_le_pow_right (by omega) h;omega
theorem A4l {n:Nat} (h:n<=20):A5m 1 (n:Int)=((2^n:Nat):Int):=by
 have h1:=Baa h;have e:min ((n:Int)).toNat IntKind.i64.bits=n:=by have:IntKind.i64.bits=64:=rfl;rw [this,tna0];omega
 unfold A5m;rw [e,Int.one_mul,show ((2:Int)^n)=((2^n:Nat):Int) by simp];generalize 2^n=q at h1 ⊢;exact Xd (by omega) (by omega)
theorem A4t (m:Nat) {x:Nat} (h:x<=20):A28 (m:Int) (x:Int)=((m/2^x:Nat):Int):=by
 have e:min ((x:Int)).toNat IntKind.i64.bits=x:=by have:IntKind.i64.bits=64:=rfl;rw [this,tna0];omega
 unfold A28;rw [e,Int.fdiv_eq_ediv_of_nonneg _ (Int.pow_nonneg (by omega)),show ((2:Int)^x)=((2^x:Nat):Int) by simp];rfl
theorem Baz {m:Nat} (h:m<=1048576):A6m (m:Int) 1=((m%2:Nat):Int):=by
 unfold A6m;have e:(BitVec.ofInt IntKind.i64.bits (m:Int) &&& BitVec.ofInt IntKind.i64.bits 1).toNat=m%2:=by
  have hb:IntKind.i64.bits=64:=rfl;rw [hb,BitVec.toNat_and,BitVec.toNat_ofInt,BitVec.toNat_ofInt];have e1:((m:Int)%((2^64:Nat):Int)).toNat=m:=by omega
  have e2:((1:Int)%((2^64:Nat):Int)).toNat=1:=by decide
  rw [e1,e2,Nat.and_one_is_mod]
 rw [e];exact Xd (by omega) (by omega)
def Aa1 (m i:Nat):Bool:=decide (m/2^i%2=1)
theorem A2f {q:Nat->Bool} {i:Nat} : ∀ {n:Nat},i<=n->(∀j,i<=j->j<n->q j=false)->Ar n q=Ar i q:=by
 intro n
 induction n with
 | zero => intro h _;have:i=0:=by omega
           subst this;rfl
 | succ n ih=>
   intro h hq;by_cases hi:i=n+1
   ·subst hi;rfl
   ·rw [De,hq n (by omega) (by omega),in0 (by simp)];exact ih (by omega) λj h1 h2=>hq j h1 (by omega)
theorem A8l {m i j:Nat} (h:m/2^i=0) (hj:i<=j):Aa1 m j=false:=by
 have h1:m<2^i:=by
  rcases Nat.lt_or_ge m (2^i) with h1 | h1
  ·exact h1
  ·have:=Nat.div_pos h1 (Nat.pow_pos (by omega));omega
 have h2:(2:Nat)^i<=2^j:=Nat.pow_le_pow_right (by omega) hj;unfold Aa1;rw [Nat.div_eq_of_lt (by omega)];simp
theorem A6o {body:(Int×List Int)->Option ((Int×List Int) ⊕ List Int)} {m n:Nat} (hm:m<2^n)
  (h0 : ∀(i:Nat) acc,i<=n->m/2^i=0->body ((i:Int),acc)=some (.inr acc))
  (h1 : ∀(i:Nat) acc,i<n->acc.length<=i->¬m/2^i=0->body ((i:Int),acc)=some (.inl (((i+1:Nat):Int),if Aa1 m i then acc++[(i:Int)] else acc))):Ak body (0,Aw Int)=some (Ar n (Aa1 m)):=by
 have e0:((0:Int),Aw Int)=(((0:Nat):Int),Ar 0 (Aa1 m)):=rfl;rw [e0];rcases Akn (body:=body) (λi=>((i:Int),Ar i (Aa1 m))) n (λi=>m/2^i=0) (λi=>Ar i (Aa1 m)) (Ar n (Aa1 m)) (λi hi hh=>by rw [h1 i _ hi (Cz _ _) hh,De]) (λi hi hh=>h0 i _ (by omega) hh) (h0 n _ (Nat.le_refl _) (Nat.div_eq_of_lt hm)) with ⟨i,hi,hh,_,e⟩ | ⟨_,e⟩
 ·rw [e,A2f (q:=Aa1 m) (n:=n) (by omega) λj hj _=>A8l hh hj]
 ·exact e
theorem Bc5 (m i:Nat):m/2^i<=m:=Nat.div_le_self _ _
theorem A9p {m n:Nat} (hn:n<=20) (hm:m<2^n):Mx (m:Int)=some (Ar n (Aa1 m)):=by
 unfold Mx;have hp:=Baa hn;rw [A6o (body:=Gl (m:Int)) hm (λi acc hi hh=>by
  unfold Gl;dsimp only;rw [Ae (by omega),A4t m (by omega),hh,in0 (by omega)]) (λi acc hi ha hh=>by
  unfold Gl Aa1;dsimp only;have hd:=Bc5 m i;rw [Ae (by omega),A4t m (by omega)];generalize m/2^i=q at *;rw [ip0 (by omega),Ae (by omega),Baz (by omega)];by_cases hb:q%2=1
  ·rw [ip0 (by omega),Ae (by rw [At];simp;omega),Ae (by omega),dtr0 hb,ip0 rfl];rfl
  ·rw [in0 (by omega),Ae (by omega),dfa0 hb,in0 (by simp)];rfl)]
 rfl
def Bcw (a b:List Int):Prop := ∃i,i<a.length/\(∀j,j<i->nth a j=nth b j)/\nth a i<nth b i
theorem A0d {a b:List Int} (hl:a.length=b.length) (h:a.length<=LIM):Jy a b=some (decide (Bcw a b)):=by
 unfold Jy;rw [At] at h;rw [show ((0:Int))=(((0:Nat)):Int) from rfl];rcases Akn (body:=Fd a b) (λi=>(i:Int)) a.length (λi=>nth a i≠nth b i) (λi=> .inl (decide (nth a i<nth b i))) (.inr ()) (λi hi hh=>by
   unfold Fd;rw [ip0 (by omega),Ae (by omega),Ae (by omega),tna0,in0 hh,Ae (by omega)];rfl) (λi hi hh=>by
   unfold Fd;rw [ip0 (by omega),Ae (by omega),Ae (by omega),tna0,ip0 hh,Ae (by omega),Ae (by omega)]) (by
   unfold Fd;rw [in0 (by omega)]) with ⟨i,hi,hh,hf,e⟩ | ⟨hn,e⟩
 ·rw [e];simp only [obs0];congr 1;rw [decide_eq_decide];constructor
  ·intro hlt;exact ⟨i,hi,λj hj=>Classical.not_not.1 (hf j hj),hlt⟩
  ·rintro ⟨k,hk,h1,h2⟩;rcases Nat.lt_trichotomy k i with hki | hki | hki
   ·have:=Classical.not_not.1 (hf k hki);omega
   ·subst hki;exact h2
   ·exact absurd (h1 i hki) hh
 ·rw [e,dfa0]
  ·rfl
  ·rintro ⟨k,hk,_,h2⟩;have:=Classical.not_not.1 (hn k hk);omega
def anti (f:Nat->Nat->Bool) (ls:List Int):Prop := ∀x∈ls,∀y∈ls,¬(x.toNat≠y.toNat/\f x.toNat y.toNat=true)
theorem Aed (n:Nat) (q:Nat->Bool):Bc (Ar n q) n:=by intro x hx;obtain ⟨z,h1,_,rfl⟩:=Da.1 hx;omega
theorem Ay5 (m i:Nat):Aa1 m i=m.testBit i:=by unfold Aa1;rw [Nat.testBit_eq_decide_div_mod_eq]
def pc (n m:Nat):Nat:=(Ar n (Aa1 m)).length
theorem A6b {q q':Nat->Bool} {x:Nat} (hq:q x=false) (h : ∀i,q' i=(q i || decide (x=i))) : ∀n,(Ar n q').length=(Ar n q).length+if x<n then 1 else 0:=by
 intro n
 induction n with
 | zero=>simp [Ar]
 | succ n ih=>
   rw [De,De,h n];by_cases hxn:x=n
   ·subst hxn;rw [hq];simp only [decide_true,Bool.or_true,if_true,Bool.false_eq_true,if_false];rw [List.length_append,ih,in0 (by omega),ip0 (by omega)];rfl
   ·rw [dfa0 hxn,Bool.or_false];by_cases hqn:q n=true
    ·rw [ip0 hqn,ip0 hqn,List.length_append,List.length_append,ih];by_cases hx:x<n
     ·rw [ip0 hx,ip0 (by omega)];simp
     ·rw [in0 hx,in0 (by omega)];rfl
    ·rw [in0 hqn,in0 hqn,ih];by_cases hx:x<n
     ·rw [ip0 hx,ip0 (by omega)]
     ·rw [in0 hx,in0 (by omega)]
def wt (n m:Nat):Nat:=10^(10-pc n m)
def phi (n:Nat) (ws:List Int):Nat->Nat->Int
 | _,0=>0
 | M,k+1=>nth ws M*wt n M+phi n ws (M+1) k
section
variable {n:Nat} {f:Nat->Nat->Bool}
structure okW (n m:Nat) (ws:List Int):Prop where
 len:ws.length=2^n
 pos : ∀i,i<ws.length->0<=nth ws i
 sum:phi n ws m (2^n-m)<=10000000000
end
theorem Au9 (xs:List Int) (h:xs.length<=LIM):Em xs=some xs:=by unfold Em;rw [Ae (by simp [Aw];exact h)];rfl
theorem A72 {q q':Nat->Bool} : ∀(n:Nat),(∀i,i<n->q i=true->q' i=true)->(Ar n q).length<=(Ar n q').length:=by
 intro n
 induction n with
 | zero=>intro _;simp [Ar]
 | succ n ih=>
   intro h;have:=ih λi hi=>h i (by omega)
   rw [De,De];by_cases hq:q n=true
   ·rw [ip0 hq,ip0 (h n (by omega) hq),List.length_append,List.length_append];simp;omega
   ·rw [in0 hq];split
    ·rw [List.length_append];omega
    ·exact this
theorem A1h {q q':Nat->Bool} {x:Nat} (hx:q x=false) (hx':q' x=true) : ∀(n:Nat),x<n->(∀i,i<n->q i=true->q' i=true)->(Ar n q).length<(Ar n q').length:=by
 intro n
 induction n with
 | zero=>intro h _;omega
 | succ n ih=>
   intro hn h;rw [De,De];by_cases hxn:x=n
   ·subst hxn;have:=A72 x λi hi=>h i (by omega)
    rw [hx,hx',in0 (by simp),ip0 rfl,List.length_append];simp;omega
   ·have:=ih (by omega) λi hi=>h i (by omega)
    by_cases hq:q n=true
    ·rw [ip0 hq,ip0 (h n (by omega) hq),List.length_append,List.length_append];simp;omega
    ·rw [in0 hq];split
     ·rw [List.length_append];omega
     ·exact this
theorem A5s (n:Nat):(Ar n λ_=>true).length=n:=by
 induction n with
 | zero=>rfl
 | succ n ih=>rw [De,ip0 rfl,List.length_append,ih];rfl
theorem A06 {xs:List Int}:Mk xs↔xs.Pairwise (· < ·):=by
 constructor
 ·intro h;refine List.pairwise_iff_getElem.2 λi j hi hj hij=> ?_
  have:=Ir h hij hj
  rwa [Ce hi,Ce hj] at this
 ·intro h i h1 h2;have:=List.pairwise_iff_getElem.1 h (i-1) i (by omega) h2 (by omega)
  rwa [Ce (by omega),Ce h2]
noncomputable def Bew (n:Nat) (g h:Nat->Nat->Nat) (S:Nat->Bool):Nat->Bool:=λz=>decide (S z=true \/ ∃x y,x<n/\y<n/\S x=true/\S y=true/\(z=g x y\/z=h x y))
noncomputable def Axk (n:Nat) (g h:Nat->Nat->Nat) (S:Nat->Bool):Nat->Nat->Bool
 | 0=>S
 | k+1=>Bew n g h (Axk n g h S k)
section
variable {n:Nat} {g h:Nat->Nat->Nat} {S:Nat->Bool}
def Bfl (n:Nat) (g h:Nat->Nat->Nat) (S:Nat->Bool) (k:Nat):Prop := ∀z,z<n->Axk n g h S (k+1) z=Axk n g h S k z
noncomputable def closed (n:Nat) (g h:Nat->Nat->Nat) (S:Nat->Bool):Nat->Bool:=Axk n g h S n
theorem Apk {xs:List Int} (hx:Bc xs n) (hr:Mk xs):Ar n (λz=>decide ((z:Int)∈xs))=xs:=by
 refine Alx (Ey _ _) hr λx=> ?_
 rw [Da];constructor
 ·rintro ⟨i,_,h1,rfl⟩;simpa using h1
 ·intro h1;have:=hx x h1;exact ⟨x.toNat,by omega,by simpa [show ((x.toNat:Nat):Int)=x by omega] using h1,by omega⟩
def Bfk (n:Nat) (S:Nat->Bool):List Nat:=(List.range n).filter S
end
theorem Apy {xs ys:List Int} (h:xs.length<=LIM):Ib xs ys=some (decide (xs=ys)):=by
 unfold Ib;rw [At] at h;split
 ·rename_i hl;rw [dfa0];rintro rfl;exact hl rfl
 rename_i hl;have hl:xs.length=ys.length:=by omega
 have:=Jx (body:=E6 xs ys) (λi=>(i:Int)) xs.length (λi=>¬nth xs i=nth ys i) () () (λi hi hb=>by
  unfold E6;rw [ip0 (by omega),Ae (by omega),Ae (by omega)];simp only [tna0];rw [in0 (by simpa using hb),Ae (by omega)];rfl) (λi hi hb=>by
  unfold E6;rw [ip0 (by omega),Ae (by omega),Ae (by omega)];simp only [tna0];rw [ip0 hb]) (by unfold E6;rw [in0 (by omega)]) 0 (by omega)
 show ((Ak _ ((0:Nat):Int)).bind _)=_;rw [this];by_cases hx : ∃i,0<=i/\i<xs.length/\¬nth xs i=nth ys i
 ·rw [ip0 hx,dfa0]
  ·rfl
  ·rintro rfl;obtain ⟨i,_,_,hc⟩:=hx;exact hc rfl
 ·rw [in0 hx,dtr0 (Fi hl (Oe.1 hx))];rfl
theorem Bef {n:Nat} {S:Nat->Bool} {z k:Nat} (hz:z<n) (hk:k<=(Ar n S).length) (h1 : ∀j,j<k->nth (Ar n S) j<(z:Int)) (h2:k<(Ar n S).length->(z:Int)<nth (Ar n S) k) :
  (Ar n S).take k++[(z:Int)]++(Ar n S).drop k=Ar n λa=>decide (S a=true\/a=z):=by
 have hr:=Ey n S;have e:=List.take_append_drop k (Ar n S);refine Alx (A06.2 ?_) (Ey _ _) λx=> ?_
 ·rw [List.append_assoc,List.pairwise_append];have hp:=A06.1 hr;rw [<-e,List.pairwise_append] at hp;have ht : ∀a∈(Ar n S).take k,a<(z:Int):=by
   intro a ha;obtain ⟨j,hj,rfl⟩:=Cw.1 ha;have hj':j<k:=by rw [List.length_take] at hj;omega
   have:=h1 j hj';rw [Ce hj,List.getElem_take]
   rwa [Ce (by omega)] at this
  have hd : ∀a∈(Ar n S).drop k,(z:Int)<a:=by
   intro a ha;obtain ⟨j,hj,rfl⟩:=Cw.1 ha;rw [List.length_drop] at hj;have h3:=h2 (by omega);have h4:nth ((Ar n S).drop k) j=nth (Ar n S) (k+j):=by rw [Ce (by rw [List.length_drop];omega),Ce (by omega),List.getElem_drop]
   rw [h4];by_cases hj0:j=0
   ·subst hj0;exact h3
   ·have:=Ir hr (i:=k) (j:=k+j) (by omega) (by omega);omega
  refine ⟨hp.1,?_,?_⟩
  ·rw [List.singleton_append,List.pairwise_cons];exact ⟨hd,hp.2.1⟩
  ·intro a ha b hb;rcases List.mem_append.1 hb with hb | hb
   ·rw [List.mem_singleton.1 hb];exact ht a ha
   ·exact hp.2.2 a ha b hb
 ·have hm:x∈Ar n S↔x∈(Ar n S).take k\/x∈(Ar n S).drop k:=by rw [<-List.mem_append,e]
  rw [List.mem_append,List.mem_append,List.mem_singleton];have:(x∈Ar n S\/x=(z:Int))↔x∈Ar n λa=>decide (S a=true\/a=z):=by
   rw [Da,Da];constructor
   ·rintro (⟨i,a,b,rfl⟩ | rfl)
    ·exact ⟨i,a,dtr0 (.inl b),rfl⟩
    ·exact ⟨z,hz,dtr0 (.inr rfl),rfl⟩
   ·rintro ⟨i,a,b,rfl⟩;rcases of_decide_eq_true b with c | c
    ·exact .inl ⟨i,a,c,rfl⟩
    ·exact .inr (by omega)
  rw [<-this,hm];constructor
  ·rintro ((h | h) | h)
   ·exact .inl (.inl h)
   ·exact .inr h
   ·exact .inl (.inr h)
  ·rintro ((h | h) | h)
   ·exact .inl (.inl h)
   ·exact .inr h
   ·exact .inl (.inr h)
theorem Bcz {n:Nat} {S:Nat->Bool} {z k:Nat} (hk:k<(Ar n S).length) (h:nth (Ar n S) k=(z:Int)):Ar n S=Ar n λa=>decide (S a=true\/a=z):=by
 obtain ⟨i,a,b,c⟩:=Da.1 (Aj hk);rw [h] at c;refine R4 λj _=> ?_
 by_cases hj:j=z
 ·have:j=i:=by omega
  subst this;rw [b];exact (dtr0 (.inl rfl)).symm
 ·cases hS:S j<;>simp [hj]
theorem Bbh {n:Nat} (hn:n<=1000) (S:Nat->Bool) {z:Nat} (hz:z<n):Pg (Ar n S) (z:Int)=some (Ar n λa=>decide (S a=true\/a=z)):=by
 unfold Pg;have hl:=Cz n S;rw [show ((0:Int))=(((0:Nat)):Int) from rfl];have key : ∃k:Nat,k<=(Ar n S).length/\(∀j,j<k->nth (Ar n S) j<(z:Int))/\(k<(Ar n S).length->¬nth (Ar n S) k<(z:Int))/\Ak (Ew (Ar n S) (z:Int)) (((0:Nat)):Int)=some (k:Int):=by
  rcases Akn (body:=Ew (Ar n S) (z:Int)) (λi=>(i:Int)) (Ar n S).length (λi=>¬nth (Ar n S) i<(z:Int)) (λi=>(i:Int)) ((Ar n S).length:Int) (λi hi hh=>by
    unfold Ew;rw [ip0 (by omega),Ae (by omega),tna0,ip0 (Classical.not_not.1 hh),Ae (by omega)];rfl) (λi hi hh=>by
    unfold Ew;rw [ip0 (by omega),Ae (by omega),tna0,in0 hh]) (by
    unfold Ew;rw [in0 (by omega)]) with ⟨i,hi,hh,hj,e⟩ | ⟨hno,e⟩
  ·exact ⟨i,by omega,λj h=>Classical.not_not.1 (hj j h),λ_=>hh,e⟩
  ·exact ⟨_,Nat.le_refl _,λj h=>Classical.not_not.1 (hno j h),λh=>absurd h (Nat.lt_irrefl _),e⟩
 obtain ⟨k,hk,h1,h2,e⟩:=key;rw [e];simp only [obs0];have tail:(¬k<(Ar n S).length\/nth (Ar n S) k≠(z:Int))->(ask (0<=(((0:Nat)):Int)/\(((0:Nat)):Int)<=(k:Int)/\(k:Int)<=(((Ar n S).length:Nat):Int)) <|
   ask ((Aw Int).length+(List.take ((k:Int).toNat-Int.toNat ((((0:Nat)):Int))) (List.drop (Int.toNat ((((0:Nat)):Int))) (Ar n S))).length<=LIM) <|
   ask ((Aw Int++List.take ((k:Int).toNat-Int.toNat ((((0:Nat)):Int))) (List.drop (Int.toNat ((((0:Nat)):Int))) (Ar n S))).length+([(z:Int)]).length<=LIM) <|
   ask (0<=(k:Int)/\(k:Int)<=((Ar n S).length:Int)/\((Ar n S).length:Int)<=(((Ar n S).length:Nat):Int)) <|
   ask ((Aw Int++List.take ((k:Int).toNat-Int.toNat ((((0:Nat)):Int))) (List.drop (Int.toNat ((((0:Nat)):Int))) (Ar n S))++[(z:Int)]).length+(List.take (((Ar n S).length:Int).toNat-(k:Int).toNat) (List.drop (k:Int).toNat (Ar n S))).length<=LIM) <|
   some (Aw Int++List.take ((k:Int).toNat-Int.toNat ((((0:Nat)):Int))) (List.drop (Int.toNat ((((0:Nat)):Int))) (Ar n S))++[(z:Int)]++List.take (((Ar n S).length:Int).toNat-(k:Int).toNat) (List.drop (k:Int).toNat (Ar n S))))=some (Ar n λa=>decide (S a=true\/a=z)):=by
  intro h3;simp only [tna0,List.drop_zero,Nat.sub_zero,List.nil_append];have ed:List.take ((Ar n S).length-k) (List.drop k (Ar n S))=List.drop k (Ar n S):=List.take_of_length_le (by rw [List.length_drop];omega);rw [ed];have ht:(List.take k (Ar n S)).length<=1000:=by rw [List.length_take];omega
  have hd:(List.drop k (Ar n S)).length<=1000:=by rw [List.length_drop];omega
  rw [Ae (by omega),Ae (by rw [At];simp only [List.length_nil];omega),Ae (by rw [At];simp only [List.length_cons,List.length_nil];omega),Ae (by omega),Ae (by rw [At];simp only [List.length_append,List.length_cons,List.length_nil];omega)];rw [Bef hz hk h1 λh=>by have h4:=h2 h;rcases h3 with h3 | h3<;>omega]
 by_cases hkl:k<(Ar n S).length
 ·rw [ip0 (by omega),Ae (by omega),tna0];by_cases hv:nth (Ar n S) k=(z:Int)
  ·rw [ip0 hv];simp only [obs0];rw [<-Bcz hkl hv]
  ·rw [in0 hv];exact tail (.inr hv)
 ·rw [in0 (by omega)];exact tail (.inl hkl)
theorem Aw7 {n:Nat} (hn:n<=LIM) {xs:List Int} (hx:Bc xs n) (hl:xs.length<=LIM):I5 xs n=some (Mg n λz=>decide ((z:Int)∈xs)):=by
 unfold I5;have hn':=hn;rw [At] at hl hn';rw [Ae (by rw [At];omega)];have key:=Bn (body:=Hk xs) (λi=>((i:Int),Mg n λz=>decide ((z:Int)∈xs.take i))) xs.length (Mg n λz=>decide ((z:Int)∈xs)) (λi hi=>by
  unfold Hk;dsimp only;have hc:=hx _ (Aj hi);have hlen:=Jw n λz=>decide ((z:Int)∈xs.take i)
  rw [ip0 (by omega),Ae (by omega),tna0,Ae (by rw [hlen];omega),Ae (by omega),Ar9 (by omega)];congr 3;refine Nx λz _=> ?_
  rw [C9 hi];by_cases hz:z=(nth xs i).toNat
  ·rw [ip0 hz];refine (dtr0 ?_).symm;rw [List.mem_append,List.mem_singleton];right;omega
  ·rw [in0 hz,decide_eq_decide,List.mem_append,List.mem_singleton];exact ⟨.inl,λh=>h.resolve_right (by omega)⟩) (by
  unfold Hk;dsimp only;rw [in0 (by omega),List.take_length])
 have e0:(Mg n λz=>decide ((z:Int)∈xs.take 0))=List.replicate n false:=by rw [Afx];exact Nx λz _=>by simp
 simp only [e0] at key;rw [tna0];show (Ak _ (((0:Nat):Int),_)).bind _=_;rw [key];rfl
theorem A0t {n:Nat} (hn:n<=LIM) (S:Nat->Bool):J1 (Mg n S)=some (Ar n S):=by
 unfold J1;have hn':=hn;rw [At] at hn';have hl:=Jw n S;rw [Abe n S (λi acc hi ha=>by
  unfold It;dsimp only;rw [ip0 (by omega),Ae (by omega),tna0,Ko hi];by_cases hp:S i=true
  ·rw [ip0 hp,ip0 hp,Ae (by rw [At];simp;omega),Ae (by omega)];rfl
  ·rw [in0 hp,in0 hp,Ae (by omega)];rfl) (λacc=>by
  unfold It;dsimp only;rw [in0 (by omega)])]
 rfl
def Hg (a:SAlgebra):Prop:=a.Ops.length<=1048576 /\ ∀f∈a.Ops,f.Table.length<=1048576
def Aiy (n:Nat):List Int:=(List.range n).map λi:Nat=>(i:Int)
section
theorem Af9 {n:Nat} (hn:n<=1000):Dv n=some (Aiy n):=by
 unfold Dv;have key:=Bn (body:=Dd n) (λi=>((i:Int),Aiy i)) n (Aiy n) (λi hi=>by
  unfold Dd;dsimp only;have hl:(Aiy i).length=i:=by simp [Aiy]
  rw [ip0 (by omega),Ae (by rw [At];simp only [List.length_cons,List.length_nil];omega),Ae (by omega)];have e:Aiy (i+1)=Aiy i++[(i:Int)]:=by simp [Aiy,List.range_succ]
  rw [e];rfl) (by
  unfold Dd;dsimp only;rw [in0 (by omega)])
 have key':Ak (Dd n) (0,Aw Int)=_:=key;rw [key'];rfl
end
def A0k (n:Nat) (f:SOp):Prop:=0<=f.Arity/\f.Arity<=3/\f.Table.length=n^f.Arity.toNat/\Bc f.Table n
def Ca (a:SAlgebra):Prop:=1<=a.Size/\a.Size<=8/\a.Ops.length<=4 /\ ∀f∈a.Ops,A0k a.Size.toNat f
theorem Yh {n k:Nat} (hn:n<=8) (hk:k<=3):n^k<=512:= Nat.le_trans (Nat.pow_le_pow_left hn k) (Nat.le_trans (Nat.pow_le_pow_right (by omega) hk) (by decide))
theorem Aj0 {n k:Nat} (hn:n<=8) (hk:k<=3):Hp n k=some ((n^k:Nat):Int):=by
 unfold Hp;have key:=Bn (body:=Gc n) (λj=>(((n^j:Nat):Int),((k:Int)-(j:Int)))) k ((n^k:Nat):Int) (λj hj=>by
  unfold Gc;dsimp only;have hp:=Yh hn (show j+1<=3 by omega);rw [Nat.pow_succ] at hp;rw [ip0 (by omega),<-Int.natCast_mul,Nat.pow_succ];generalize n^j*n=N at hp ⊢;rw [Ae (by omega),Ae (by omega),show ((k:Int)-(j:Int)-1)=(k:Int)-((j+1:Nat):Int) by omega]) (by
  unfold Gc;dsimp only;rw [in0 (by omega)])
 have key':Ak (Gc n) (1,(k:Int))=some ((n^k:Nat):Int):=by simpa using key
 rw [key'];rfl
theorem A44 {n k:Nat} (hn:n<=8) (hk:k<=3):I8 n k=some ((n^k:Nat):Int):=by
 unfold I8;have key:=Bn (body:=F5 n) (λj=>(((n^j:Nat):Int),((k:Int)-(j:Int)))) k ((n^k:Nat):Int) (λj hj=>by
  unfold F5;dsimp only;have hp:=Yh hn (show j+1<=3 by omega);rw [Nat.pow_succ] at hp;rw [ip0 (by omega),<-Int.natCast_mul,Nat.pow_succ];generalize n^j*n=N at hp ⊢;rw [Ae (by omega),Ae (by omega),show ((k:Int)-(j:Int)-1)=(k:Int)-((j+1:Nat):Int) by omega]) (by
  unfold F5;dsimp only;rw [in0 (by omega)])
 have key':Ak (F5 n) (1,(k:Int))=some ((n^k:Nat):Int):=by simpa using key
 rw [key'];rfl
theorem A9m {n:Nat} (hn:n<=8) {f:SOp} (hl:f.Table.length<=LIM):Sk f n=some (decide (A0k n f)):=by
 unfold Sk;by_cases h0:0<=f.Arity
 ·rw [ip0 (show f.Arity>=0 from h0)];by_cases h3:f.Arity<=3
  ·have e:Hp (n:Int) f.Arity=some ((n^f.Arity.toNat:Nat):Int):=by
    have:=Aj0 hn (k:=f.Arity.toNat) (by omega)
    rwa [show ((f.Arity.toNat:Nat):Int)=f.Arity by omega] at this
   rw [ip0 h3,e];simp only [obs0];by_cases hL:f.Table.length=n^f.Arity.toNat
   ·rw [ip0 (by rw [hL]),Ayz _ _ hl];simp only [obs0];congr 1;rw [decide_eq_decide];exact ⟨λh=>⟨h0,h3,hL,h⟩,λh=>h.2.2.2⟩
   ·rw [in0 (λhc=>hL (Int.ofNat_inj.1 hc)),dfa0 (λh=>hL h.2.2.1)]
  ·rw [in0 h3,dfa0 (λh=>h3 h.2.1)]
 ·rw [in0 (by omega),dfa0 (λh=>h0 h.1)]
theorem A9r {n:Nat} (hn1:1<=n) (hn:n<=8) {f:SOp} (hl:f.Table.length<=LIM):Rw n f=some (decide (A0k n f)):=by
 unfold Rw;rw [Ad2];simp only [obs0];by_cases h0:0<=f.Arity/\f.Arity<=3
 ·have e:I8 (n:Int) f.Arity=some ((n^f.Arity.toNat:Nat):Int):=by
   have:=A44 hn (k:=f.Arity.toNat) (by omega)
   rwa [show ((f.Arity.toNat:Nat):Int)=f.Arity by omega] at this
  rw [dtr0 h0,ip0 rfl,e];simp only [obs0];by_cases hL:f.Table.length=n^f.Arity.toNat
  ·rw [in0 (by rw [hL];simp)];simp only [obs0];have hl':=hl;rw [At] at hl';have this:=Jx (body:=Gv n f) (λi=>(i:Int)) f.Table.length (λi=>¬(0<=nth f.Table i/\nth f.Table i<=(n:Int)-1)) () () (λi hi hb=>by
    unfold Gv;rw [ip0 (by omega),Ae (by omega),Ae (by omega),Ad2];simp only [tna0,obs0];rw [dtr0 (Classical.not_not.1 hb),ip0 rfl,Ae (by omega)];rfl) (λi hi hb=>by
    unfold Gv;rw [ip0 (by omega),Ae (by omega),Ae (by omega),Ad2];simp only [tna0,obs0];rw [dfa0 hb,in0 (by simp)]) (by
    unfold Gv;rw [in0 (by omega)]) 0 (by omega)
   refine (Ly this false true).trans (congrArg some (Un ?_));rw [Oe];constructor
   ·intro h;refine ⟨h0.1,h0.2,hL,λx hx=> ?_⟩;obtain ⟨i,hi,rfl⟩:=Cw.1 hx;have:=h i hi;omega
   ·intro h i hi;have:=h.2.2.2 _ (Aj hi);omega
  ·rw [ip0 (λhc=>hL (Int.ofNat_inj.1 hc)),dfa0 (λh=>hL h.2.2.1)];rfl
 ·rw [dfa0 h0,in0 (by simp),dfa0 (λh=>h0 ⟨h.1,h.2.1⟩)];rfl
theorem N2 {a:SAlgebra} (h:Hg a):C0 a=some (decide (Ca a)):=by
 unfold C0;by_cases h1:a.Size<1
 ·rw [ip0 h1,dfa0 (λhg=>by have:=hg.1;omega)];rfl
 rw [in0 h1];by_cases h8:a.Size>8
 ·rw [ip0 h8,dfa0 (λhg=>by have:=hg.2.1;omega)];rfl
 rw [in0 h8];by_cases h4:(a.Ops.length:Int)>4
 ·rw [ip0 h4,dfa0 (λhg=>by have:=hg.2.2.1;omega)];rfl
 rw [in0 h4];simp only [obs0];obtain ⟨n,hn⟩:=Int.eq_ofNat_of_zero_le (show 0<=a.Size by omega);have this:=Jx (body:=Du a) (λi=>(i:Int)) a.Ops.length (λi=>¬A0k n (nth a.Ops i)) () () (λi hi hb=>by
  have hl:=h.2 _ (Aj hi);unfold Du;rw [ip0 (by omega),Ae (by omega),tna0,hn,A9m (by omega) (by rw [At];omega)];simp only [obs0];rw [dtr0 (Classical.not_not.1 hb),ip0 rfl,Ae (by omega)];rfl) (λi hi hb=>by
  have hl:=h.2 _ (Aj hi);unfold Du;rw [ip0 (by omega),Ae (by omega),tna0,hn,A9m (by omega) (by rw [At];omega)];simp only [obs0];rw [dfa0 hb,in0 (by simp)]) (by
  unfold Du;rw [in0 (by omega)]) 0 (by omega)
 refine (Ly this false true).trans (congrArg some (Un ?_));rw [Oe];have hnn:a.Size.toNat=n:=by omega
 constructor
 ·intro hh;refine ⟨by omega,by omega,by omega,λf hf=> ?_⟩;obtain ⟨i,hi,rfl⟩:=Cw.1 hf;rw [hnn];exact hh i hi
 ·intro hg i hi;have:=hg.2.2.2 _ (Aj hi)
  rwa [hnn] at this
theorem Arw {a:SAlgebra} (h:Hg a):H5 a=some (decide (Ca a)):=by
 unfold H5;rw [Ad2];simp only [obs0];by_cases h1:1<=a.Size/\a.Size<=8
 ·rw [dtr0 h1,ip0 rfl];by_cases h4:(a.Ops.length:Int)>4
  ·rw [ip0 h4,dfa0 (λhg=>by have:=hg.2.2.1;omega)];rfl
  rw [in0 h4];simp only [obs0];obtain ⟨n,hn⟩:=Int.eq_ofNat_of_zero_le (show 0<=a.Size by omega);have this:=Jx (body:=Fc a) (λi=>(i:Int)) a.Ops.length (λi=>¬A0k n (nth a.Ops i)) () () (λi hi hb=>by
   have hl:=h.2 _ (Aj hi);unfold Fc;rw [ip0 (by omega),Ae (by omega),tna0,hn,A9r (by omega) (by omega) (by rw [At];omega)];simp only [obs0];rw [dtr0 (Classical.not_not.1 hb),ip0 rfl,Ae (by omega)];rfl) (λi hi hb=>by
   have hl:=h.2 _ (Aj hi);unfold Fc;rw [ip0 (by omega),Ae (by omega),tna0,hn,A9r (by omega) (by omega) (by rw [At];omega)];simp only [obs0];rw [dfa0 hb,in0 (by simp)]) (by
   unfold Fc;rw [in0 (by omega)]) 0 (by omega)
  refine (Ly this false true).trans (congrArg some (Un ?_));rw [Oe];have hnn:a.Size.toNat=n:=by omega
  constructor
  ·intro hh;refine ⟨by omega,by omega,by omega,λf hf=> ?_⟩;obtain ⟨i,hi,rfl⟩:=Cw.1 hf;rw [hnn];exact hh i hi
  ·intro hg i hi;have:=hg.2.2.2 _ (Aj hi)
   rwa [hnn] at this
 ·rw [dfa0 h1,in0 (by simp),dfa0 (λhg=>h1 ⟨hg.1,hg.2.1⟩)];rfl
def Fn (a:SAlgebra):List Int:=a.Ops.map (·.Arity)
theorem A36 {a:SAlgebra} {i:Nat} (hi:i<a.Ops.length):(a.Ops.take (i+1)).map (·.Arity)=(a.Ops.take i).map (·.Arity)++[(nth a.Ops i).Arity]:=by rw [C9 hi,List.map_append];rfl
theorem A04 {a:SAlgebra} (h:Hg a):Jz a=some (Fn a):=by
 unfold Jz;have h0:=h.1;have key:=Bn (body:=E7 a) (λi=>((i:Int),(a.Ops.take i).map (·.Arity))) a.Ops.length (Fn a) (λi hi=>by
  unfold E7;dsimp only;rw [ip0 (by omega),Ae (by omega),tna0,Ae (by rw [At];simp only [List.length_map,List.length_take,List.length_cons,List.length_nil];omega),Ae (by omega),A36 hi];rfl) (by
  unfold E7;dsimp only;rw [in0 (by omega),List.take_length];rfl)
 have key':Ak (E7 a) (0,Aw Int)=_:=key;rw [key'];rfl
theorem A7n {a:SAlgebra} (h:Hg a):(Fn a).length<=LIM:=by have:=h.1;unfold Fn;rw [List.length_map,At];omega
theorem A2e {xs ys:List Int} (h:xs.length<=LIM):Jp xs ys=some (decide (xs=ys)):=by
 unfold Jp;rw [At] at h;by_cases hne:xs.length=ys.length
 ·rw [in0 (by omega)];have this:=Jx (body:=D6 xs ys) (λi=>(i:Int)) xs.length (λi=>¬nth xs i=nth ys i) () () (λi hi hb=>by
   unfold D6;rw [ip0 (by omega),Ae (by omega),Ae (by omega)];simp only [tna0];rw [in0 (λhc=>hc (Classical.not_not.1 hb).symm),Ae (by omega)];rfl) (λi hi hb=>by
   unfold D6;rw [ip0 (by omega),Ae (by omega),Ae (by omega)];simp only [tna0];rw [ip0 (λhc=>hb hc.symm)]) (by unfold D6;rw [in0 (by omega)]) 0 (by omega)
  refine (Ly this false true).trans (congrArg some (Un ?_));rw [Oe];exact ⟨λhh=>Fi hne hh,λhh i _=>by rw [hh]⟩
 ·rw [ip0 (by omega),dfa0 (λhh=>hne (by rw [hh]))]
def B0 (n:Nat):Nat->Nat->List Int
 | 0,_=>[]
 | r+1,k=>B0 n r (k/n)++[((k%n:Nat):Int)]
theorem C7 (n:Nat) : ∀r k,(B0 n r k).length=r:=by
 intro r
 induction r with
 | zero=>intro k;rfl
 | succ r ih=>intro k;simp [B0,ih]
theorem Ii {n:Nat} (hn:0<n) : ∀r k,Bc (B0 n r k) n:=by
 intro r
 induction r with
 | zero=>intro k x hx;cases hx
 | succ r ih=>
   intro k x hx;simp only [B0] at hx;rcases List.mem_append.1 hx with hx | hx
   ·exact ih _ x hx
   ·rw [List.mem_singleton.1 hx];have:=Nat.mod_lt k hn;omega
theorem Bbn {n:Nat} (hn:0<n) (hn8:n<=8) : ∀(r k:Nat) (xs:List Int),r<=xs.length->xs.length<=1000->k<=1048576->Ak (Fa n) ((r:Int)-1,xs,(k:Int))=some (B0 n r k++xs.drop r):=by
 intro r
 induction r with
 | zero=> intro k xs _ _ _;refine Cv ?_;unfold Fa;dsimp only;rw [in0 (by omega)];simp [B0]
 | succ r ih=>
   intro k xs hr hl hk;have c1:(k:Int).tdiv (n:Int)=((k/n:Nat):Int):=rfl;have c2:(k:Int).tmod (n:Int)=((k%n:Nat):Int):=rfl;have hd:k/n<=k:=Nat.div_le_self k n;have step:Fa n (((r+1:Nat):Int)-1,xs,(k:Int))=some (.inl ((r:Int)-1,xs.set r ((k%n:Nat):Int),((k/n:Nat):Int))):=by unfold Fa;dsimp only;rw [show (((r+1:Nat):Int)-1)=(r:Int) by omega,c1,c2];generalize k/n=kd at hd;rw [ip0 (by omega),Ae (by omega),Ae (by omega),Ae (by omega),Ae (by omega),tna0]
   rw [F6 step,ih _ _ (by rw [List.length_set];omega) (by rw [List.length_set];exact hl) (by omega)];congr 1;simp only [B0];rw [List.append_assoc];congr 1;have e:(xs.set r ((k%n:Nat):Int)).drop r=((k%n:Nat):Int)::xs.drop (r+1):=by
    refine List.ext_getElem (by simp;omega) λi h1 h2=> ?_
    rw [List.getElem_drop,List.getElem_set];cases i with
    | zero=>simp
    | succ i=> rw [in0 (by omega),List.getElem_cons_succ,List.getElem_drop];congr 1;omega
   rw [e];rfl
theorem Ajr {n r k:Nat} (hn:0<n) (hn8:n<=8) (hr:r<=3) (hk:k<=1048576):H9 n r k=some (B0 n r k):=by unfold H9;rw [Ae (by rw [At];omega),Ae (by omega),tna0,Bbn hn hn8 r k _ (by simp) (by simp;omega) hk];simp
theorem A0p {n r k:Nat} (hn:0<n) (hn8:n<=8) (hr:r<=3) (hk:k<=1048576):J2 k r n=some (B0 n r k):=by have:J2 (k:Int) (r:Int) (n:Int)=H9 (n:Int) (r:Int) (k:Int):=rfl;rw [this];exact Ajr hn hn8 hr hk
def Pv (m:Nat) (xs:List Int):Int:=xs.foldl (λs x=>s*(m:Int)+x) 0
theorem Ny (m:Nat) (xs:List Int) (y:Int):Pv m (xs++[y])=Pv m xs*(m:Int)+y:=by unfold Pv;rw [List.foldl_append];rfl
theorem Ajg {m:Nat} : ∀(r:Nat) (xs:List Int),xs.length=r->Bc xs m -> ∃c:Nat,Pv m xs=(c:Int)/\c<m^r:=by
 intro r
 induction r with
 | zero=> intro xs hl _;have:xs=[]:=List.length_eq_zero_iff.1 hl;subst this;exact ⟨0,rfl,by simp⟩
 | succ r ih=>
   intro xs hl hx;obtain ⟨ys,y,rfl⟩ : ∃ys y,xs=ys++[y]:=by refine ⟨xs.take r,nth xs r,?_⟩;rw [<-C9 (by omega),List.take_of_length_le (by omega)]
   have hy:=hx y (by simp);obtain ⟨c,h1,h2⟩:=ih ys (by simpa using hl) λz hz=>hx z (by simp [hz])
   obtain ⟨d,rfl⟩:=Int.eq_ofNat_of_zero_le hy.1;refine ⟨c*m+d,by rw [Ny,h1];push_cast;rfl,?_⟩;have h3:=Nat.mul_le_mul_right m (show c+1<=m^r from h2);rw [Nat.succ_mul] at h3;rw [Nat.pow_succ];omega
theorem Na {m:Nat} (hm:m<=8) {xs:List Int} (hl:xs.length<=3) (hx:Bc xs m) : ∃c:Nat,Pv m xs=(c:Int)/\c<m^xs.length/\c<512:=by obtain ⟨c,h1,h2⟩:=Ajg xs.length xs rfl hx;have:=Yh hm hl;exact ⟨c,h1,h2,by omega⟩
theorem Avo {m:Nat} {xs:List Int} {i:Nat} (hi:i<xs.length):Pv m (xs.take (i+1))=Pv m (xs.take i)*(m:Int)+nth xs i:=by rw [C9 hi,Ny]
theorem Avi {m:Nat} (hm:m<=8) {xs:List Int} (hl:xs.length<=3) (hx:Bc xs m) {i:Nat} (hi:i<xs.length) :
  InI (Pv m (xs.take i)*(m:Int))/\InI (Pv m (xs.take i)*(m:Int)+nth xs i):=by
 obtain ⟨c,h1,_,h3⟩:=Na hm (xs:=xs.take i) (by rw [List.length_take];omega) λz hz=>hx z (List.mem_of_mem_take hz)
 have hv:=hx _ (Aj hi);have h4:c*m<=512*8:=Nat.mul_le_mul (by omega) hm;rw [h1,<-Int.natCast_mul];generalize c*m=d at h4;unfold InI;omega
theorem Au3 {m:Nat} (hm:m<=8) {xs:List Int} (hl:xs.length<=3) (hx:Bc xs m):Im xs m=some (Pv m xs):=by
 unfold Im;have key:=Bn (body:=Eu xs m) (λi=>((i:Int),Pv m (xs.take i))) xs.length (Pv m xs) (λi hi=>by
  unfold Eu;dsimp only;obtain ⟨h1,h2⟩:=Avi hm hl hx hi;rw [ip0 (by omega),Ae (by omega),Ae h1,tna0,Ae h2,Ae (by omega),Avo hi];rfl) (by
  unfold Eu;dsimp only;rw [in0 (by omega),List.take_length])
 have key':Ak (Eu xs m) (0,0)=_:=key;rw [key'];rfl
theorem A5f {b:SAlgebra} {m:Nat} (hm:m<=8) (hb:b.Size=m) {i:Nat} (hi:i<b.Ops.length) {xs:List Int} (hl:xs.length<=3) (hx:Bc xs m) (hT:(nth b.Ops i).Table.length=m^xs.length) :
  Kx b i xs=some (nth (nth b.Ops i).Table (Pv m xs).toNat):=by
 unfold Kx;have key:=Bn (body:=El b i xs) (λj=>((j:Int),Pv m (xs.take j))) xs.length (Pv m xs) (λj hj=>by
  unfold El;dsimp only;obtain ⟨h1,h2⟩:=Avi hm hl hx hj;rw [hb,ip0 (by omega),Ae h1,Ae (by omega),tna0,Ae h2,Ae (by omega),Avo hj];rfl) (by
  unfold El;dsimp only;rw [in0 (by omega),List.take_length])
 have key':Ak (El b i xs) (0,0)=_:=key;rw [key'];simp only [obs0];obtain ⟨c,h1,h2,_⟩:=Na hm hl hx;rw [Ae (by omega),tna0,Ae (by rw [h1,hT];omega)]
def I9 (n m:Nat) (f:List Int):Nat->Nat->Int
 | 0,_=>0
 | r+1,k=>I9 n m f r (k/n)*(m:Int)+nth f (k%n)
theorem Hs (n m:Nat) (f:List Int) : ∀r k,Pv m ((B0 n r k).map λx=>nth f x.toNat)=I9 n m f r k:=by
 intro r
 induction r with
 | zero=>intro k;rfl
 | succ r ih=> intro k;simp only [B0,I9,List.map_append,List.map_cons,List.map_nil,tna0];rw [Ny,ih]
theorem A6k (A C S M L:Int):A+C*S+S*M*L=A+S*(L*M+C):=by rw [Int.mul_add,Int.mul_comm C S,Int.add_assoc,Int.add_comm (S*C),Int.mul_assoc,Int.mul_comm M L]
theorem Qu {n m:Nat} (hn:0<n) {f:List Int} (hf:f.length=n) (hfx:Bc f m) (r k:Nat):Bc ((B0 n r k).map λx=>nth f x.toNat) m:=by intro y hy;obtain ⟨x,hx,rfl⟩:=List.mem_map.1 hy;have:=Ii hn r k x hx;exact hfx _ (Aj (by omega))
structure Homs (a b:SAlgebra) (f:List Int) (n m:Nat):Prop where
 ga:Ca a
 gb:Ca b
 ty:Fn a=Fn b
 sa:a.Size=n
 sb:b.Size=m
 len:f.length=n
 fin:Bc f m
def Ue (a b:SAlgebra) (f:List Int) (n m i k:Nat):Prop:=nth f (nth (nth a.Ops i).Table k).toNat≠nth (nth b.Ops i).Table (I9 n m f (nth a.Ops i).Arity.toNat k).toNat
def faulty (a b:SAlgebra) (f:List Int) (n m:Nat):Prop := ∃i,i<a.Ops.length /\ ∃k,k<(nth a.Ops i).Table.length/\Ue a b f n m i k
section
variable {a b:SAlgebra}
variable {f:List Int} {n m:Nat}
theorem Homs.ops (h:Homs a b f n m):a.Ops.length=b.Ops.length:=by have:=congrArg List.length h.ty;simpa [Fn] using this
theorem Homs.op (h:Homs a b f n m) {i:Nat} (hi:i<a.Ops.length) : ∃r:Nat,r<=3/\(nth a.Ops i).Arity=r/\(nth b.Ops i).Arity=r/\(nth a.Ops i).Table.length=n^r/\(nth b.Ops i).Table.length=m^r/\Bc (nth a.Ops i).Table n/\n^r<=512:=by
 have hn:a.Size.toNat=n:=by have:=h.sa;omega
 have hm:b.Size.toNat=m:=by have:=h.sb;omega
 have hn8:n<=8:=by have:=h.sa;have:=h.ga.2.1;omega
 obtain ⟨h1,h2,h3,h4⟩:=h.ga.2.2.2 _ (Aj hi);have hib:i<b.Ops.length:=by rw [<-h.ops];exact hi
 obtain ⟨_,_,k3,_⟩:=h.gb.2.2.2 _ (Aj hib);have e:(nth a.Ops i).Arity=(nth b.Ops i).Arity:=by have e1:nth (Fn a) i=(nth a.Ops i).Arity:=Bk _ hi;have e2:nth (Fn b) i=(nth b.Ops i).Arity:=Bk _ hib;rw [<-e1,<-e2,h.ty]
 rw [hn] at h3 h4;rw [hm,<-e] at k3;exact ⟨(nth a.Ops i).Arity.toNat,by omega,by omega,by omega,h3,k3,h4,Yh hn8 (by omega)⟩
theorem Homs.pos (h:Homs a b f n m):0<n/\n<=8/\0<m/\m<=8:=by have:=h.sa;have:=h.sb;have:=h.ga.1;have:=h.ga.2.1;have:=h.gb.1;have:=h.gb.2.1;omega
theorem Homs.low (h:Homs a b f n m) {r k:Nat} (hr:r<=3) : ∃c:Nat,I9 n m f r k=(c:Int)/\c<m^r:=by obtain ⟨hn,_,_,hm⟩:=h.pos;obtain ⟨c,h1,h2,_⟩:=Na hm (xs:=(B0 n r k).map λx=>nth f x.toNat) (by rw [List.length_map,C7];exact hr) (Qu hn h.len h.fin r k);rw [Hs] at h1;rw [List.length_map,C7] at h2;exact ⟨c,h1,h2⟩
end
def uniq (f:List Int):Prop := ∀i,i<f.length->nth f i∉f.take i
theorem Bbr {a b:SAlgebra} (h:Hg a) (h':Hg b):Jt a b=some (decide (Ca a/\Ca b/\Fn a=Fn b)):=by
 unfold Jt;rw [N2 h,N2 h'];simp only [obs0];by_cases ga:Ca a
 ·by_cases gb:Ca b
  ·rw [dtr0 ga,dtr0 gb];simp only [if_true];unfold Uk M1;rw [N2 h,N2 h',dtr0 ga,dtr0 gb];simp only [obs0,if_true];rw [A04 h,A04 h'];simp only [obs0];rw [A2e (A7n h)];simp only [obs0,if_true];congr 1;rw [decide_eq_decide];exact ⟨λht=>⟨ga,gb,ht⟩,λhh=>hh.2.2⟩
  ·rw [dtr0 ga,dfa0 gb,dfa0 (show ¬(Ca a/\Ca b/\Fn a=Fn b) from λhh=>gb hh.2.1)];simp
 ·rw [dfa0 ga,dfa0 (show ¬(Ca a/\Ca b/\Fn a=Fn b) from λhh=>ga hh.1)];simp
structure Perm (f:List Int) (n:Nat):Prop where
 len:f.length=n
 fin:Bc f n
 un:uniq f
theorem Perm.count {f:List Int} {n:Nat} (h:Perm f n) : ∀i,i<=n->(Ar n λz=>decide ((z:Int)∈f.take i)).length=i:=by
 intro i
 induction i with
 | zero=> intro _;rw [List.length_eq_zero_iff];exact Avw.2 λz _=>by simp
 | succ i ih=>
   intro hi;have hil:i<f.length:=by rw [h.len];exact hi
   have hv:=h.fin _ (Aj hil);have hu:=h.un i hil;have hc:nth f i=(((nth f i).toNat:Nat):Int):=by omega
   have:=A6b (q:=λz=>decide ((z:Int)∈f.take i)) (q':=λz=>decide ((z:Int)∈f.take (i+1))) (x:=(nth f i).toNat) (dfa0 (by rw [<-hc];exact hu)) (λz=>by
    rw [C9 hil,Bool.eq_iff_iff];simp only [decide_eq_true_eq,List.mem_append,List.mem_singleton,Bool.or_eq_true];constructor
    ·rintro (h1 | h1)
     ·exact .inl h1
     ·exact .inr (by omega)
    ·rintro (h1 | h1)
     ·exact .inl h1
     ·exact .inr (by omega)) n
   rw [this,ih (by omega),ip0 (by omega)]
theorem Perm.onto {f:List Int} {n:Nat} (h:Perm f n) {v:Nat} (hv:v<n) : ∃x,x<n/\nth f x=(v:Int):=by
 have hc:=h.count n (Nat.le_refl _);have hm:(v:Int)∈f:=by
  apply Classical.byContradiction;intro hno;have hlt:=A1h (q:=λz=>decide ((z:Int)∈f.take n)) (q':=λ_=>true) (x:=v) (dfa0 λhm=>hno (List.mem_of_mem_take hm)) rfl n hv λ_ _ _=>rfl
  rw [A5s,hc] at hlt;omega
 obtain ⟨x,hx,e⟩:=Cw.1 hm;exact ⟨x,by rw [<-h.len];exact hx,e⟩
theorem A7y {f:List Int} {n:Nat} (h:Perm f n) (hn:0<n) : ∀r p,p<n^r -> ∃k,k<n^r/\I9 n n f r k=(p:Int):=by
 intro r
 induction r with
 | zero=>
   intro p hp;have:p=0:=by simpa using hp
   subst this;exact ⟨0,by simp,rfl⟩
 | succ r ih=>
   intro p hp;rw [Nat.pow_succ] at hp;obtain ⟨k,hk,e⟩:=ih (p/n) (Nat.div_lt_of_lt_mul (by rw [Nat.mul_comm];exact hp));obtain ⟨x,hx,ex⟩:=h.onto (Nat.mod_lt p hn);have d1:(k*n+x)/n=k:=by rw [Nat.mul_comm,Nat.mul_add_div hn,Nat.div_eq_of_lt hx];omega
   have d2:(k*n+x)%n=x:=by rw [Nat.mul_comm,Nat.mul_add_mod,Nat.mod_eq_of_lt hx]
   refine ⟨k*n+x,?_,?_⟩
   ·have h1:=Nat.mul_le_mul_right n (show k+1<=n^r by omega);rw [Nat.succ_mul] at h1;rw [Nat.pow_succ];omega
   ·simp only [I9];rw [d1,d2,e,ex];have:=Nat.div_add_mod p n;rw [Nat.mul_comm] at this;exact_mod_cast this
section
variable {a:SAlgebra}
variable {f:List Int} {n:Nat}
theorem Bdj (h:Perm f n) (hn:0<n) (hn8:n<=8) {r:Nat} (hr:r<=3) (k:Nat) : ∃c:Nat,I9 n n f r k=(c:Int)/\c<n^r:=by obtain ⟨c,h1,h2,_⟩:=Na hn8 (xs:=(B0 n r k).map λx=>nth f x.toNat) (by rw [List.length_map,C7];exact hr) (Qu hn h.len h.fin r k);rw [Hs] at h1;rw [List.length_map,C7] at h2;exact ⟨c,h1,h2⟩
end
end Go.Proofs.YtmkgjnphianalaaGreat.Ax
namespace Go.Proofs.YtmkgjnphianalaaGreat.Ax
open Go
def Cur (k:Nat) (c:Sl1Cur):Prop:=(∀x∈c.code,0<=x/\x<=255)/\c.code.length<=65536/\0<=c.at_/\c.at_<=k
theorem Cur.mono {k l:Nat} {c:Sl1Cur} (h:Cur k c) (hl:k<=l):Cur l c:=⟨h.1,h.2.1,h.2.2.1,by have:=h.2.2.2;omega⟩
theorem A96 {n:Int} (h0:0<=n) (h1:n<=255):IntKind.u64.wrap n=n:=by simp [IntKind.wrap,IntKind.bits,IntKind.signed];omega
theorem Avd {c:Sl1Cur} {k:Nat} (h:Cur k c) (hk:k<=1000000000) : ∃r d,F1 c=some (r,d)/\Cur (k+1) d/\0<=r/\r<=255:=by
 obtain ⟨h1,h2,h3,h4⟩:=h;unfold F1;have fin : ∀q:Int,0<=q->q<=255 -> ∃r d,(ask (InI (c.at_+1)) <|
   if c.at_+1<=(c.code.length:Int) then
    some (q,({ code:=c.code,at_:=c.at_+1,seed:=IntKind.u64.wrap (IntKind.u64.wrap (IntKind.u64.wrap (c.seed*6364136223846793005)+IntKind.u64.wrap q)+550289) }:Sl1Cur))
   else some (IntKind.i64.wrap (IntKind.u64.wrap (((BitVec.ofInt IntKind.u64.bits ((IntKind.u64.wrap (IntKind.u64.wrap (IntKind.u64.wrap (c.seed*6364136223846793005)+IntKind.u64.wrap q)+550289)).fdiv (2^min (Int.toNat 40) IntKind.u64.bits)) &&& BitVec.ofInt IntKind.u64.bits 255).toNat:Nat):Int)),
    ({ code:=c.code,at_:=c.at_+1,seed:=IntKind.u64.wrap (IntKind.u64.wrap (IntKind.u64.wrap (c.seed*6364136223846793005)+IntKind.u64.wrap q)+550289) }:Sl1Cur)))=some (r,d)/\Cur (k+1) d/\0<=r/\r<=255:=by
  intro q hq0 hq1;rw [Ae (by omega)];split
  ·exact ⟨_,_,rfl,⟨h1,h2,by show 0<=c.at_+1;omega,by show c.at_+1<=((k+1:Nat):Int);omega⟩,hq0,hq1⟩
  ·refine ⟨_,_,rfl,⟨h1,h2,by show 0<=c.at_+1;omega,by show c.at_+1<=((k+1:Nat):Int);omega⟩,?_⟩;generalize BitVec.ofInt IntKind.u64.bits ((IntKind.u64.wrap (IntKind.u64.wrap (IntKind.u64.wrap (c.seed*6364136223846793005)+IntKind.u64.wrap q)+550289)).fdiv (2^min (Int.toNat 40) IntKind.u64.bits))=b;have hb:(b &&& BitVec.ofInt IntKind.u64.bits 255).toNat<=255:=by
    rw [BitVec.toNat_and];have:(BitVec.ofInt IntKind.u64.bits 255).toNat=255:=by decide
    rw [this];exact Nat.and_le_right
   generalize (b &&& BitVec.ofInt IntKind.u64.bits 255).toNat=z at hb;rw [A96 (by omega) (by omega),Xd (by omega) (by omega)];omega
 by_cases hc:c.at_<(c.code.length:Int)
 ·rw [ip0 hc,Ae ⟨h3,hc⟩];have hm:=h1 _ (Aj (xs:=c.code) (i:=c.at_.toNat) (by omega));rw [Xd (by omega) (by omega)];simp only [obs0];exact fin _ hm.1 hm.2
 ·rw [in0 hc];simp only [obs0];exact fin 0 (by omega) (by omega)
theorem Fb {c:Sl1Cur} {k:Nat} (h:Cur k c) (hk:k<=900000000) (n:Int) : ∃r d,A9 c n=some (r,d)/\Cur (k+2) d/\0<=r/\(r<n\/(n<=1/\r=0)):=by
 unfold A9;by_cases h1:n<=1
 ·rw [ip0 h1];exact ⟨0,c,rfl,h.mono (by omega),by omega,.inr ⟨h1,rfl⟩⟩
 ·rw [in0 h1];obtain ⟨r,d,e,hd,a1,a2⟩:=Avd h (by omega);simp only [e,obs0];by_cases h2:n>200
  ·rw [ip0 h2,Ae (by omega)];obtain ⟨r2,d2,e2,hd2,b1,b2⟩:=Avd hd (by omega);simp only [e2,obs0];rw [Ae (by omega),Ae (by omega)];refine ⟨_,_,rfl,hd2,Int.tmod_nonneg _ (by omega),.inl ?_⟩;exact Int.tmod_lt_of_pos _ (by omega)
  ·rw [in0 h2,Ae (by omega)];refine ⟨_,_,rfl,hd.mono (by omega),Int.tmod_nonneg _ (by omega),.inl ?_⟩;exact Int.tmod_lt_of_pos _ (by omega)
theorem Az2 {c:Sl1Cur} {k:Nat} (h:Cur k c) (hk:k<=900000000) (n:Int) : ∃b d,Gr c n=some (b,d)/\Cur (k+2) d:=by unfold Gr;obtain ⟨r,d,e,hd,_,_⟩:=Fb h hk n;simp only [e,obs0];exact ⟨_,_,rfl,hd⟩
theorem K3 {c:Sl1Cur} {k:Nat} (h:Cur k c) (hk:k<=900000000) (l:List Int) (h0:0<l.length) : ∃r d,Bv c l=some (r,d)/\Cur (k+2) d/\r∈l:=by unfold Bv;obtain ⟨r,d,e,hd,a1,a2⟩:=Fb h hk (l.length:Int);simp only [e,obs0];rw [Ae (by omega)];exact ⟨_,_,rfl,hd,Aj (by omega)⟩
open Classical
open Classical
def Qi (n r k:Nat) (S:Nat->Bool):Prop := ∀x∈B0 n r k,S x.toNat=true
theorem Adm {n r k:Nat} {S T:Nat->Bool} (h : ∀z,S z=true->T z=true) (hi:Qi n r k S):Qi n r k T:=λx hx=>h _ (hi x hx)
def Yt (a:SAlgebra) (i k:Nat):Nat:=(nth (nth a.Ops i).Table k).toNat
def Ad9 (a:SAlgebra) (i k:Nat) (S:Nat->Bool):Prop:=Qi a.Size.toNat (nth a.Ops i).Arity.toNat k S
def Pi (a:SAlgebra) (S:Nat->Bool):Prop := ∀i,i<a.Ops.length -> ∀k,k<(nth a.Ops i).Table.length->Ad9 a i k S->S (Yt a i k)=true
noncomputable def Sd (a:SAlgebra) (S:Nat->Bool):Nat->Bool:=λz=>decide (∀T:Nat->Bool,(∀x,S x=true->T x=true)->Pi a T->T z=true)
theorem Aaa {a:SAlgebra} {S:Nat->Bool} (z:Nat) (h:S z=true):Sd a S z=true:=dtr0 λ_ hT _=>hT z h
theorem Ad8 {a:SAlgebra} {S:Nat->Bool}:Pi a (Sd a S):=by
 intro i hi k hk ha;refine dtr0 λT hT hc=> ?_
 exact hc i hi k hk λx hx=>of_decide_eq_true (ha x hx) T hT hc
theorem Af2 {a:SAlgebra} {S T:Nat->Bool} (hT : ∀x,S x=true->T x=true) (hc:Pi a T) (z:Nat) (h:Sd a S z=true):T z=true:=of_decide_eq_true h T hT hc
theorem A6f {a:SAlgebra} {S:Nat->Bool} (hc:Pi a S):Sd a S=S:=by
 funext z;cases h:S z with
 | true=>exact Aaa z h
 | false=>
   cases h2:Sd a S z with
   | false=>rfl
   | true=>rw [Af2 (λ_ h=>h) hc z h2] at h;cases h
def Ahr (H:List Bool):Nat:=H.count true
theorem A4e (H:List Bool):Ahr H<=H.length:=List.count_le_length
theorem Ark {H:List Bool} {v z:Nat} (hv:v<H.length):nth (H.set v true) z=true↔z=v\/nth H z=true:=by
 by_cases hz:z<H.length
 ·rw [Jd _ _ _ _ hz];by_cases e:v=z
  ·subst e;simp
  ·rw [in0 e];exact ⟨.inr,λh=>h.resolve_left (Ne.symm e)⟩
 ·have h1:nth H z=false:=by rw [Axw,List.getD_eq_getElem?_getD,List.getElem?_eq_none (by omega)];rfl
  have h2:nth (H.set v true) z=false:=by rw [Axw,List.getD_eq_getElem?_getD,List.getElem?_eq_none (by simp;omega)];rfl
  rw [h1,h2];constructor
  ·intro h;cases h
  ·rintro (h | h)
   ·omega
   ·cases h
theorem A94 {H:List Bool} {v:Nat} (hv:v<H.length) (h:nth H v=false):Ahr (H.set v true)=Ahr H+1:=by unfold Ahr;rw [List.count_set hv];rw [Ce hv] at h;rw [h];simp
theorem A4h {H:List Bool} {z:Nat} (h:nth H z=true):z<H.length:=by apply Classical.byContradiction;intro hc;rw [Axw,List.getD_eq_getElem?_getD,List.getElem?_eq_none (by omega)] at h;cases h
theorem A6g {H K:List Bool} (hl:H.length=K.length) (h : ∀z,nth H z=true->nth K z=true):Ahr H<=Ahr K/\(Ahr K<=Ahr H->H=K):=by
 induction H generalizing K with
 | nil=>cases K with
   | nil=>exact ⟨Nat.le_refl _,λ_=>rfl⟩
   | cons=>simp at hl
 | cons x r ih=>
   cases K with
   | nil=>simp at hl
   | cons y s=>
     have hl':r.length=s.length:=by simpa using hl
     obtain ⟨h1,h2⟩:=ih hl' λz hz=>h (z+1) hz
     have h0:x=true->y=true:=λhx=>h 0 hx
     unfold Ahr at *;cases x<;>cases y
     ·simp only [List.count_cons];exact ⟨by simpa using h1,λhh=>by rw [h2 (by simpa using hh)]⟩
     ·simp only [List.count_cons];refine ⟨by simp;omega,λhh=> ?_⟩;simp at hh;omega
     ·exact absurd (h0 rfl) (by simp)
     ·simp only [List.count_cons];exact ⟨by simpa using h1,λhh=>by rw [h2 (by simpa using hh)]⟩
section
variable {a:SAlgebra}
structure ReadyA (a:SAlgebra) (n:Nat):Prop where
 good:Ca a
 sz:a.Size=(n:Int)
 pos:0<n
 le:n<=8
theorem Ps (hg:Ca a):ReadyA a a.Size.toNat:=⟨hg,by have:=hg.1;omega,by have:=hg.1;omega,by have:=hg.2.1;omega⟩
theorem ReadyA.nat {n:Nat} (h:ReadyA a n):a.Size.toNat=n:=by have:=h.sz;omega
theorem ReadyA.op {n:Nat} (h:ReadyA a n) {i:Nat} (hi:i<a.Ops.length) : ∃r:Nat,(nth a.Ops i).Arity=(r:Int)/\r<=3/\(nth a.Ops i).Table.length=n^r/\Bc (nth a.Ops i).Table n/\(nth a.Ops i).Table.length<=512/\(∀k S,Ad9 a i k S↔Qi n r k S):=by have:=h.good.2.2.2 _ (Aj hi);rw [h.nat] at this;obtain ⟨h1,h2,h3,h4⟩:=this;refine ⟨(nth a.Ops i).Arity.toNat,by omega,by omega,h3,h4,?_,λk S=>by unfold Ad9;rw [h.nat]⟩;rw [h3];exact Yh h.le (by omega)
theorem ReadyA.val {n:Nat} (h:ReadyA a n) {i k:Nat} (hi:i<a.Ops.length) (hk:k<(nth a.Ops i).Table.length):nth (nth a.Ops i).Table k=(Yt a i k:Int)/\Yt a i k<n:=by obtain ⟨r,_,_,_,h4,_⟩:=h.op hi;have:=h4 _ (Aj hk);unfold Yt;omega
theorem A8d {n:Nat} (hn:0<n) (H:List Bool) (hH:H.length=n) (hn8:n<=8) : ∀(r k:Nat),r<=3->k<=1048576->Ak (E1 (n:Int) H) ((k:Int),(r:Int))=some (if Qi n r k (nth H) then .inr () else .inl ()):=by
 intro r
 induction r with
 | zero=> intro k _ _;rw [ip0 (by intro x hx;cases hx)];refine Cv ?_;unfold E1;dsimp only;rw [in0 (by omega)]
 | succ r ih=>
   intro k hr hk;have c1:(k:Int).tdiv (n:Int)=((k/n:Nat):Int):=rfl;have c2:(k:Int).tmod (n:Int)=((k%n:Nat):Int):=rfl;have hd:k/n<=k:=Nat.div_le_self k n;have hm:k%n<n:=Nat.mod_lt k hn;have ea:Qi n (r+1) k (nth H)↔Qi n r (k/n) (nth H)/\nth H (k%n)=true:=by
    unfold Qi;simp only [B0,List.mem_append,List.mem_singleton];constructor
    ·intro h;exact ⟨λx hx=>h x (.inl hx),h ((k%n:Nat):Int) (.inr rfl)⟩
    ·rintro ⟨h1,h2⟩ x (hx | rfl)
     ·exact h1 x hx
     ·exact h2
   by_cases hb:nth H (k%n)=true
   ·have step:E1 (n:Int) H ((k:Int),((r+1:Nat):Int))=some (.inl (((k/n:Nat):Int),(r:Int))):=by
     unfold E1;dsimp only;rw [c1,c2];generalize k/n=kd at hd;rw [ip0 (by omega),Ae (by omega),Ae (by omega),tna0,ip0 hb,Ae (by omega),Ae (by omega)];congr 3;omega
    rw [F6 step,ih _ (by omega) (by omega)];congr 1;by_cases h1:Qi n r (k/n) (nth H)
    ·rw [ip0 h1,ip0 (ea.2 ⟨h1,hb⟩)]
    ·rw [in0 h1,in0 (λh=>h1 (ea.1 h).1)]
   ·rw [in0 (λh=>hb (ea.1 h).2)];refine Cv ?_;unfold E1;dsimp only;rw [c2,ip0 (by omega),Ae (by omega),Ae (by omega),tna0,in0 hb]
theorem Bcf {n:Nat} (hn:0<n) (hn8:n<=8) {H:List Bool} (hH:H.length=n) {r k:Nat} (hr:r<=3) (hk:k<=1048576):Pq k r n H=some (decide (Qi n r k (nth H))):=by
 unfold Pq;rw [A8d hn H hH hn8 r k hr hk];by_cases h:Qi n r k (nth H)
 ·rw [ip0 h,dtr0 h];rfl
 ·rw [in0 h,dfa0 h];rfl
structure Pass (n:Nat) (G:Nat->Bool) (c0:Bool) (H0:List Bool) (c:Bool) (H:List Bool) (done:(Nat->Bool)->Prop):Prop where
 len:H.length=n
 more : ∀z,nth H0 z=true->nth H z=true
 low : ∀z,nth H z=true->G z=true
 up:c=true->c0=true\/Ahr H0<Ahr H
 no:c=false->c0=false/\H=H0/\done (nth H)
 mono:Ahr H0<=Ahr H
theorem Bc0 {n:Nat} (h:ReadyA a n) {S:Nat->Bool} {i:Nat} (hi:i<a.Ops.length) {H0:List Bool} (hl:H0.length=n) (hlow : ∀z,nth H0 z=true->Sd a S z=true) (c0:Bool) :
  ∃t,Ak (Ec a (i:Int)) (0,c0,H0)=some t/\Pass n (Sd a S) c0 H0 t.1 t.2 (λT => ∀k,k<(nth a.Ops i).Table.length->Ad9 a i k T->T (Yt a i k)=true):=by
 obtain ⟨r,hr,hr3,_,htab,h512,hargs⟩:=h.op hi;refine Ds (body:=Ec a (i:Int)) (λs => ∃k:Nat,s.1=(k:Int)/\k<=(nth a.Ops i).Table.length/\Pass n (Sd a S) c0 H0 s.2.1 s.2.2 (λT => ∀j,j<k->Ad9 a i j T->T (Yt a i j)=true))
  (λs=>(nth a.Ops i).Table.length-s.1.toNat) _ (λs hs=> ?_) ⟨0,rfl,Nat.zero_le _,hl,λ_ h=>h,hlow,λh=> .inl h,λh=>⟨h,rfl,λj hj=>absurd hj (Nat.not_lt_zero _)⟩,Nat.le_refl _⟩
 obtain ⟨x,c,H⟩:=s;obtain ⟨k,hk,hkl,hp⟩:=hs;simp only at hk hkl hp;subst hk;unfold Ec;dsimp only;rw [tna0];by_cases hlt:k<(nth a.Ops i).Table.length
 ·left;obtain ⟨ev,hv⟩:=h.val hi hlt;rw [ip0 (by omega),Ae (by omega),tna0,ev,Ae (by rw [hp.len];omega),tna0];by_cases hm:nth H (Yt a i k)=true
  ·rw [ip0 hm,Ae (by omega)];refine ⟨_,rfl,⟨k+1,rfl,hlt,hp.len,hp.more,hp.low,hp.up,λhc=> ?_,hp.mono⟩,by simp only;omega⟩;obtain ⟨h1,h2,h3⟩:=hp.no hc;refine ⟨h1,h2,λj hj ha=> ?_⟩;by_cases e:j=k
   ·subst e;exact hm
   ·exact h3 j (by omega) ha
  ·rw [in0 hm,hr,h.sz,Bcf h.pos h.le hp.len hr3 (by omega)];simp only [obs0];by_cases ha:Qi n r k (nth H)
   ·rw [dtr0 ha,ip0 rfl,Ae (by rw [hp.len];omega),Ae (by omega)];have hvl:Yt a i k<H.length:=by rw [hp.len];exact hv
    have hcs:=A94 hvl (by simpa using hm);refine ⟨_,rfl,⟨k+1,rfl,hlt,by rw [List.length_set];exact hp.len,λz hz=>(Ark hvl).2 (.inr (hp.more z hz)),λz hz=> ?_,λ_=> .inr (by have:=hp.mono;simp only;omega),λhc=>(by cases hc),by have:=hp.mono;simp only;omega⟩,by simp only;omega⟩;rcases (Ark hvl).1 hz with rfl | hz
    ·exact Ad8 i hi k hlt ((hargs k _).2 (Adm hp.low ha))
    ·exact hp.low z hz
   ·rw [dfa0 ha,in0 (by simp),Ae (by omega)];refine ⟨_,rfl,⟨k+1,rfl,hlt,hp.len,hp.more,hp.low,hp.up,λhc=> ?_,hp.mono⟩,by simp only;omega⟩;obtain ⟨h1,h2,h3⟩:=hp.no hc;refine ⟨h1,h2,λj hj hb=> ?_⟩;by_cases e:j=k
    ·subst e;exact absurd ((hargs _ _).1 hb) ha
    ·exact h3 j (by omega) hb
 ·right;rw [in0 (by omega)];have e:k=(nth a.Ops i).Table.length:=by omega
  subst e;exact ⟨_,rfl,hp⟩
theorem Bed {n:Nat} (h:ReadyA a n) {S:Nat->Bool} {H0:List Bool} (hl:H0.length=n) (hlow : ∀z,nth H0 z=true->Sd a S z=true) :
  ∃t,Ak (Ef a) (0,false,H0)=some t/\Pass n (Sd a S) false H0 t.1 t.2 (λT=>Pi a T):=by
 have h4:=h.good.2.2.1;refine Ds (body:=Ef a) (λs => ∃i:Nat,s.1=(i:Int)/\i<=a.Ops.length/\Pass n (Sd a S) false H0 s.2.1 s.2.2 (λT => ∀j,j<i -> ∀k,k<(nth a.Ops j).Table.length->Ad9 a j k T->T (Yt a j k)=true))
  (λs=>a.Ops.length-s.1.toNat) _ (λs hs=> ?_) ⟨0,rfl,Nat.zero_le _,hl,λ_ h=>h,hlow,λh=> .inl h,λh=>⟨h,rfl,λj hj=>absurd hj (Nat.not_lt_zero _)⟩,Nat.le_refl _⟩
 obtain ⟨x,c,H⟩:=s;obtain ⟨i,hi,hil,hp⟩:=hs;simp only at hi hil hp;subst hi;unfold Ef;dsimp only;by_cases hlt:i<a.Ops.length
 ·left;obtain ⟨⟨c1,H1⟩,e1,hq⟩:=Bc0 h hlt hp.len hp.low c;rw [ip0 (by omega),Ae (by omega),e1];simp only [obs0];rw [Ae (by omega)];refine ⟨_,rfl,⟨i+1,rfl,hlt,hq.len,λz hz=>hq.more z (hp.more z hz),hq.low,λhc=> ?_,λhc=> ?_,Nat.le_trans hp.mono hq.mono⟩,by simp only;omega⟩
  ·rcases hq.up hc with h1 | h1
   ·rcases hp.up h1 with h2 | h2
    ·exact .inl h2
    ·exact .inr (Nat.lt_of_lt_of_le h2 hq.mono)
   ·exact .inr (Nat.lt_of_le_of_lt hp.mono h1)
  ·obtain ⟨h1,h2,h3⟩:=hq.no hc;obtain ⟨g1,g2,g3⟩:=hp.no h1;refine ⟨g1,by simp only at h2 ⊢;rw [h2];exact g2,λj hj=> ?_⟩;by_cases e:j=i
   ·subst e;exact h3
   ·simp only at h2;simp only [h2];exact g3 j (by omega)
 ·right;rw [in0 (by omega)];have e:i=a.Ops.length:=by omega
  subst e;exact ⟨_,rfl,hp⟩
theorem Axv {n:Nat} (h:ReadyA a n) (S:Nat->Bool) (hS : ∀z,S z=true->z<n):Ho a (Mg n S)=some (Mg n (Sd a S)):=by
 have hb:=Jw n S;have hin : ∀z,nth (Mg n S) z=true↔S z=true:=λz=>by
  constructor
  ·intro hz;have hl:=A4h hz;rw [hb] at hl
   rwa [Ko hl] at hz
  ·intro hz;rw [Ko (hS z hz)];exact hz
 unfold Ho;obtain ⟨H,e,h1,h2,h3,h4⟩:=Ds (body:=Ft a) (λs=>s.2.length=n/\(∀z,S z=true->nth s.2 z=true)/\(∀z,nth s.2 z=true->Sd a S z=true)/\(s.1=false->Pi a (nth s.2)))
  (λs=>(n-Ahr s.2)+(if s.1 then 1 else 0)) (λH=>H.length=n/\(∀z,S z=true->nth H z=true)/\(∀z,nth H z=true->Sd a S z=true)/\Pi a (nth H)) (λs hs=>by
  obtain ⟨c,H⟩:=s;obtain ⟨h1,h2,h3,h4⟩:=hs;simp only at h1 h2 h3 h4;unfold Ft;dsimp only;cases c with
  | true=>
    left;obtain ⟨⟨c1,H1⟩,e1,hq⟩:=Bed h h1 h3;rw [ip0 rfl,e1];refine ⟨_,rfl,⟨hq.len,λz hz=>hq.more z (h2 z hz),hq.low,λhc=>(hq.no hc).2.2⟩,?_⟩;have l1:=A4e H1;rw [hq.len] at l1;cases c1 with
    | true=>
      rcases hq.up rfl with h5 | h5
      ·cases h5
      ·simp only at h5 ⊢;simp;omega
    | false=> have:=(hq.no rfl).2.1;simp only at this;subst this;simp
  | false=> right;rw [in0 (by simp)];exact ⟨_,rfl,h1,h2,h3,h4 rfl⟩) (s:=(true,Mg n S)) ⟨hb,λz hz=>(hin z).2 hz,λz hz=>Aaa z ((hin z).1 hz),λhc=>by cases hc⟩
 rw [e];simp only [obs0];refine congrArg some (Fi (by rw [h1,Jw]) λz hz=> ?_);rw [h1] at hz;rw [Ko hz];cases hh:Sd a S z with
 | true=>exact Af2 h2 h4 z hh
 | false=>
   cases h5:nth H z with
   | false=>rfl
   | true=>rw [h3 z h5] at hh;cases hh
theorem A3g {n:Nat} (h:ReadyA a n) {xs:List Int} (hx:Bc xs n) (hl:xs.length<=LIM):Jj a xs=some (Ar n (Sd a λz=>decide ((z:Int)∈xs))):=by have hL:=At;have h8:=h.le;unfold Jj;rw [h.sz,Aw7 (by omega) hx hl];simp only [obs0];rw [Axv h _ (λz hz=>by have:=hx _ (of_decide_eq_true hz);omega)];simp only [obs0];rw [A0t (by omega)];rfl
theorem Ba0 {n:Nat} (G:Nat->Bool) {xs:List Int} (hx:Bc xs n) (hr:Mk xs) (hG : ∀z:Nat,(z:Int)∈xs->G z=true):(Ar n G).length=xs.length↔Ar n G=xs:=by
 constructor
 ·intro hl;have e:=Apk hx hr;rw [<-e] at hl;refine Eq.trans (R4 λz hz=> ?_) e;cases h1:G z with
  | false=>
    cases h2:decide ((z:Int)∈xs) with
    | false=>rfl
    | true=>rw [hG z (of_decide_eq_true h2)] at h1;cases h1
  | true=>
    cases h2:decide ((z:Int)∈xs) with
    | true=>rfl
    | false=>
      have:=A1h (q:=λz=>decide ((z:Int)∈xs)) h2 h1 n hz λi _ hi=>hG i (of_decide_eq_true hi)
      rw [e] at this;rw [e] at hl;omega
 ·intro h1;rw [h1]
def Ei (a:SAlgebra) (n:Nat) (xs:List Int):Prop:=Bc xs n/\Mk xs/\Ar n (Sd a λz=>decide ((z:Int)∈xs))=xs
theorem Aph {n:Nat} (h:ReadyA a n) {xs:List Int} (hl:xs.length<=LIM):Hq a xs=some (decide (Ei a n xs)):=by
 unfold Hq;rw [h.sz,Ayz _ _ hl];simp only [obs0];by_cases hx:Bc xs n
 ·rw [dtr0 hx,ip0 rfl,Bb3 _ hl];simp only [obs0];by_cases hr:Mk xs
  ·rw [dtr0 hr,ip0 rfl,A3g h hx hl];simp only [obs0];congr 1;rw [Bool.eq_iff_iff,beq_iff_eq,decide_eq_true_eq];have:=Ba0 (Sd a λz=>decide ((z:Int)∈xs)) hx hr λz hz=>Aaa z (dtr0 hz)
   constructor
   ·intro e;exact ⟨hx,hr,this.1 (by omega)⟩
   ·intro e;have:=this.2 e.2.2;omega
  ·rw [dfa0 hr,in0 (by simp),dfa0 (λhc=>hr hc.2.1)]
 ·rw [dfa0 hx,in0 (by simp),dfa0 (λhc=>hx hc.1)]
theorem Bez {n:Nat} {H:List Bool} (hH:H.length=n) {x6 x7:Int} {o:List Bool} {xs:List Int} (hx:Bc xs n) (hl:xs.length<=3) :
  Ak (E9 a H x6 x7 o xs) (0,true)=some (decide (∀x∈xs,nth H x.toNat=true)):=by
 have key:=Bn (body:=E9 a H x6 x7 o xs) (λi=>((i:Int),decide (∀x∈xs.take i,nth H x.toNat=true))) xs.length (decide (∀x∈xs,nth H x.toNat=true)) (λi hi=>by
  have hc:=hx _ (Aj hi);have ht:=C9 hi;unfold E9;dsimp only;rw [ip0 (by omega)];by_cases hb : ∀x∈xs.take i,nth H x.toNat=true
  ·rw [dtr0 hb,ip0 rfl,Ae (by omega),tna0,Ae (by rw [hH];omega),Ae (by omega)];congr 3;rw [ht,Bool.eq_iff_iff,decide_eq_true_eq];constructor
   ·intro h1 x hm;rcases List.mem_append.1 hm with hm | hm
    ·exact hb x hm
    ·rw [List.mem_singleton.1 hm];exact h1
   ·intro h1;exact h1 _ (by simp)
  ·rw [dfa0 hb,in0 (by simp),Ae (by omega)];congr 3;refine (dfa0 λh1=>hb λx hm=>h1 x ?_).symm;rw [ht];exact List.mem_append_left _ hm) (by
  unfold E9;dsimp only;rw [in0 (by omega),List.take_length])
 simpa using key
theorem Bey {n:Nat} (h:ReadyA a n) {H:List Bool} (hH:H.length=n) {i:Nat} (hi:i<a.Ops.length) {H0:List Bool} (hl:H0.length=n) :
  ∃K,Ak (Gq a H (i:Int)) (0,H0)=some K/\K.length=n /\ ∀z,nth K z=true↔nth H0 z=true \/ ∃k,k<(nth a.Ops i).Table.length/\Ad9 a i k (nth H)/\z=Yt a i k:=by
 obtain ⟨r,hr,hr3,_,htab,h512,hargs⟩:=h.op hi;refine Ds (body:=Gq a H (i:Int)) (λs => ∃k:Nat,s.1=(k:Int)/\k<=(nth a.Ops i).Table.length/\s.2.length=n /\ ∀z,nth s.2 z=true↔nth H0 z=true \/ ∃j,j<k/\Ad9 a i j (nth H)/\z=Yt a i j)
  (λs=>(nth a.Ops i).Table.length-s.1.toNat) _ (λs hs=> ?_) ⟨0,rfl,Nat.zero_le _,hl,λz=>⟨.inl,λhz=>hz.resolve_right (by rintro ⟨j,hj,_⟩;omega)⟩⟩
 obtain ⟨x,K⟩:=s;obtain ⟨k,hk,hkl,h1,h2⟩:=hs;simp only at hk hkl h1 h2;subst hk;unfold Gq;dsimp only;rw [Ae (by omega),tna0];by_cases hlt:k<(nth a.Ops i).Table.length
 ·left;obtain ⟨ev,hv⟩:=h.val hi hlt;have hal:=C7 n r k;rw [ip0 (by omega),Ae (by omega),hr,h.sz,Ajr h.pos h.le hr3 (by omega)];simp only [obs0];rw [Bez hH (Ii h.pos r k) (by omega)];simp only [obs0];by_cases ha:Qi n r k (nth H)
  ·rw [dtr0 (show ∀x∈B0 n r k,nth H x.toNat=true from ha),ip0 rfl,Ae (by omega),Ae (by omega),tna0,ev,Ae (by rw [h1];omega),tna0,Ae (by omega)];have hvl:Yt a i k<K.length:=by rw [h1];exact hv
   refine ⟨_,rfl,⟨k+1,rfl,hlt,by rw [List.length_set];exact h1,λz=> ?_⟩,by simp only;omega⟩;rw [Ark hvl,h2];constructor
   ·rintro (rfl | hz | ⟨j,hj,hb,e⟩)
    ·exact .inr ⟨k,by omega,(hargs _ _).2 ha,rfl⟩
    ·exact .inl hz
    ·exact .inr ⟨j,by omega,hb,e⟩
   ·rintro (hz | ⟨j,hj,hb,e⟩)
    ·exact .inr (.inl hz)
    ·by_cases ej:j=k
     ·subst ej;exact .inl e
     ·exact .inr (.inr ⟨j,by omega,hb,e⟩)
  ·rw [dfa0 (show ¬ ∀x∈B0 n r k,nth H x.toNat=true from ha),in0 (by simp),Ae (by omega)];refine ⟨_,rfl,⟨k+1,rfl,hlt,h1,λz=> ?_⟩,by simp only;omega⟩;simp only;rw [h2];constructor
   ·rintro (hz | ⟨j,hj,hb,e⟩)
    ·exact .inl hz
    ·exact .inr ⟨j,by omega,hb,e⟩
   ·rintro (hz | ⟨j,hj,hb,e⟩)
    ·exact .inl hz
    ·by_cases ej:j=k
     ·subst ej;exact absurd ((hargs _ _).1 hb) ha
     ·exact .inr ⟨j,by omega,hb,e⟩
 ·right;rw [in0 (by omega)];have e:k=(nth a.Ops i).Table.length:=by omega
  subst e;exact ⟨_,rfl,h1,h2⟩
theorem Bal {n:Nat} (h:ReadyA a n) {H:List Bool} (hH:H.length=n) :
  ∃K,Md a H=some K/\K.length=n /\ ∀z,nth K z=true↔nth H z=true \/ ∃i k,i<a.Ops.length/\k<(nth a.Ops i).Table.length/\Ad9 a i k (nth H)/\z=Yt a i k:=by
 have hL:=At;have h4:=h.good.2.2.1;have h8:=h.le;unfold Md;rw [Ae (by simp only [List.length_nil];omega)];obtain ⟨K,e,h1,h2⟩:=Ds (body:=Iz a H) (λs => ∃i:Nat,s.1=(i:Int)/\i<=a.Ops.length/\s.2.length=n /\ ∀z,nth s.2 z=true↔nth H z=true \/ ∃j k,j<i/\k<(nth a.Ops j).Table.length/\Ad9 a j k (nth H)/\z=Yt a j k)
  (λs=>a.Ops.length-s.1.toNat) (λK=>K.length=n /\ ∀z,nth K z=true↔nth H z=true \/ ∃i k,i<a.Ops.length/\k<(nth a.Ops i).Table.length/\Ad9 a i k (nth H)/\z=Yt a i k) (λs hs=>by
  obtain ⟨x,K⟩:=s;obtain ⟨i,hi,hil,h1,h2⟩:=hs;simp only at hi hil h1 h2;subst hi;unfold Iz;dsimp only;by_cases hlt:i<a.Ops.length
  ·left;obtain ⟨K1,e1,h3,h5⟩:=Bey h hH hlt h1;rw [ip0 (by omega),e1];simp only [obs0];rw [Ae (by omega)];refine ⟨_,rfl,⟨i+1,rfl,hlt,h3,λz=> ?_⟩,by simp only;omega⟩;simp only;rw [h5,h2];constructor
   ·rintro ((hz | ⟨j,k,a1,a2,a3,a4⟩) | ⟨k,a2,a3,a4⟩)
    ·exact .inl hz
    ·exact .inr ⟨j,k,by omega,a2,a3,a4⟩
    ·exact .inr ⟨i,k,by omega,a2,a3,a4⟩
   ·rintro (hz | ⟨j,k,a1,a2,a3,a4⟩)
    ·exact .inl (.inl hz)
    ·by_cases ej:j=i
     ·subst ej;exact .inr ⟨k,a2,a3,a4⟩
     ·exact .inl (.inr ⟨j,k,by omega,a2,a3,a4⟩)
  ·right;rw [in0 (by omega)];have e:i=a.Ops.length:=by omega
   subst e;exact ⟨_,rfl,h1,h2⟩) (s:=((0:Int),Aw Bool++H)) ⟨0,rfl,Nat.zero_le _,hH,λz=>⟨.inl,λhz=>hz.resolve_right (by rintro ⟨j,_,hj,_⟩;omega)⟩⟩
 rw [e];exact ⟨K,rfl,h1,h2⟩
theorem Bc2 {n:Nat} (hn:n<=LIM) {xs:List Int} (hx:Bc xs n) (hl:xs.length<=LIM):Sj n xs=some (Mg n λz=>decide ((z:Int)∈xs)):=by
 unfold Sj;have hn':=hn;rw [At] at hl hn';rw [Ae (by rw [At];omega)];have key:=Bn (body:=Iq xs) (λi=>((i:Int),Mg n λz=>decide ((z:Int)∈xs.take i))) xs.length (Mg n λz=>decide ((z:Int)∈xs)) (λi hi=>by
  unfold Iq;dsimp only;have hc:=hx _ (Aj hi);have hlen:=Jw n λz=>decide ((z:Int)∈xs.take i)
  rw [ip0 (by omega),Ae (by omega),tna0,Ae (by rw [hlen];omega),Ae (by omega),Ar9 (by omega)];congr 3;refine Nx λz _=> ?_
  rw [C9 hi];by_cases hz:z=(nth xs i).toNat
  ·rw [ip0 hz];refine (dtr0 ?_).symm;rw [List.mem_append,List.mem_singleton];right;omega
  ·rw [in0 hz,decide_eq_decide,List.mem_append,List.mem_singleton];exact ⟨.inl,λh=>h.resolve_right (by omega)⟩) (by
  unfold Iq;dsimp only;rw [in0 (by omega),List.take_length])
 have e0:(Mg n λz=>decide ((z:Int)∈xs.take 0))=List.replicate n false:=by rw [Afx];exact Nx λz _=>by simp
 simp only [e0] at key;rw [tna0];show (Ak _ (((0:Nat):Int),_)).bind _=_;rw [key];rfl
theorem A6n {n:Nat} (hn:n<=LIM) (S:Nat->Bool):Mt (Mg n S)=some (Ar n S):=by
 unfold Mt;have hn':=hn;rw [At] at hn';have hl:=Jw n S;rw [Abe n S (λi acc hi ha=>by
  unfold I1;dsimp only;rw [ip0 (by omega),Ae (by omega),tna0,Ko hi];by_cases hp:S i=true
  ·rw [ip0 hp,ip0 hp,Ae (by rw [At];simp;omega),Ae (by omega)];rfl
  ·rw [in0 hp,in0 hp,Ae (by omega)];rfl) (λacc=>by
  unfold I1;dsimp only;rw [in0 (by omega)])]
 rfl
theorem A7s {n:Nat} (h:ReadyA a n) {xs:List Int} (hx:Bc xs n) (hl:xs.length<=LIM):Ln a xs=some (Ar n (Sd a λz=>decide ((z:Int)∈xs))):=by
 have hL:=At;have h8:=h.le;generalize hS:(λz:Nat=>decide ((z:Int)∈xs))=S;have hSn : ∀z,S z=true->z<n:=λz hz=>by subst hS;have:=hx _ (of_decide_eq_true hz);omega
 have hb:=Jw n S;have hin : ∀z,nth (Mg n S) z=true↔S z=true:=λz=>by
  constructor
  ·intro hz;have hl:=A4h hz;rw [hb] at hl
   rwa [Ko hl] at hz
  ·intro hz;rw [Ko (hSn z hz)];exact hz
 unfold Ln;rw [h.sz,Bc2 (by omega) hx hl,hS];simp only [obs0];obtain ⟨H,e,h1,h2,h3,h4⟩:=Ds (body:=Hz a) (λs => ∃j:Nat,s.1=(j:Int)/\j<=n+1/\s.2.length=n/\(∀z,S z=true->nth s.2 z=true)/\(∀z,nth s.2 z=true->Sd a S z=true)/\(Pi a (nth s.2)\/j<=Ahr s.2))
  (λs=>(n+1)-s.1.toNat) (λH=>H.length=n/\(∀z,S z=true->nth H z=true)/\(∀z,nth H z=true->Sd a S z=true)/\Pi a (nth H)) (λs hs=>by
  obtain ⟨x,H⟩:=s;obtain ⟨j,hj,hjn,h1,h2,h3,h4⟩:=hs;simp only at hj hjn h1 h2 h3 h4;subst hj;unfold Hz;dsimp only;rw [h.sz];have hcl:=A4e H;by_cases hlt:j<=n
  ·left;obtain ⟨K,eK,k1,k2⟩:=Bal h h1;rw [ip0 (by omega),eK];simp only [obs0];rw [Ae (by omega)];have hmore : ∀z,nth H z=true->nth K z=true:=λz hz=>(k2 z).2 (.inl hz)
   refine ⟨_,rfl,⟨j+1,rfl,by omega,k1,λz hz=>hmore z (h2 z hz),λz hz=> ?_,?_⟩,by simp only;omega⟩
   ·rcases (k2 z).1 hz with hz | ⟨i,k,a1,a2,a3,a4⟩
    ·exact h3 z hz
    ·rw [a4];exact Ad8 i a1 k a2 (Adm h3 a3)
   ·simp only;obtain ⟨m1,m2⟩:=A6g (h1.trans k1.symm) hmore;by_cases hc:Pi a (nth H)
    ·left;have:H=K:=by
      refine Fi (h1.trans k1.symm) λz hz=> ?_
      rw [Bool.eq_iff_iff,k2];constructor
      ·exact .inl
      ·rintro (hz | ⟨i,k,a1,a2,a3,a4⟩)
       ·exact hz
       ·rw [a4];exact hc i a1 k a2 a3
     rw [<-this];exact hc
    ·right;have hj:=h4.resolve_left hc;apply Classical.byContradiction;intro hno;have e:=m2 (by omega);refine hc λi a1 k a2 a3=> ?_
     rw [e];exact (k2 _).2 (.inr ⟨i,k,a1,a2,a3,rfl⟩)
  ·right;rw [in0 (by omega)];exact ⟨_,rfl,h1,h2,h3,h4.resolve_right (by omega)⟩) (s:=((0:Int),Mg n S)) ⟨0,rfl,by omega,hb,λz hz=>(hin z).2 hz,λz hz=>Aaa z ((hin z).1 hz),.inr (Nat.zero_le _)⟩
 rw [e];simp only [obs0];have eH:H=Mg n (Sd a S):=by
  refine Fi (by rw [h1,Jw]) λz hz=> ?_
  rw [h1] at hz;rw [Ko hz];cases hh:Sd a S z with
  | true=>exact Af2 h2 h4 z hh
  | false=>
    cases h5:nth H z with
    | false=>rfl
    | true=>rw [h3 z h5] at hh;cases hh
 rw [eH,A6n (by omega)];rfl
theorem Axg {n:Nat} (h:ReadyA a n) {xs:List Int} (hl:xs.length<=LIM):I2 a xs=some (decide (Ei a n xs)):=by
 have hL:=At;have h8:=h.le;unfold I2;rw [h.sz,Ae (by omega),A3v _ _ _ hl];simp only [obs0];by_cases hr:Awy xs 0 (n-1)
 ·obtain ⟨h3,h4⟩:=(Apm xs n).1 hr;rw [dtr0 hr,ip0 rfl,A7s h h4 hl];simp only [obs0];have hsl:=Cz n (Sd a λz=>decide ((z:Int)∈xs));rw [Apy (by omega)];simp only [obs0];congr 1;rw [decide_eq_decide];exact ⟨λhc=>⟨h4,h3,hc⟩,λhc=>hc.2.2⟩
 ·rw [dfa0 hr,in0 (by simp),dfa0];rintro ⟨h4,h3,_⟩;exact hr ((Apm xs n).2 ⟨h3,h4⟩)
theorem Lb {n:Nat} (h:ReadyA a n) {xs:List Int}:Ei a n xs↔Bc xs n/\Mk xs/\Pi a λz=>decide ((z:Int)∈xs):=by
 constructor
 ·rintro ⟨h1,h2,h3⟩;refine ⟨h1,h2,λi hi k hk ha=> ?_⟩;have hv:=(h.val hi hk).2;have h4:Sd a (λz=>decide ((z:Int)∈xs)) (Yt a i k)=true:=Ad8 i hi k hk (Adm (λz hz=>Aaa z hz) ha);have h5:((Yt a i k:Nat):Int)∈Ar n (Sd a λz=>decide ((z:Int)∈xs)):=Da.2 ⟨_,hv,h4,rfl⟩;rw [h3] at h5;exact dtr0 h5
 ·rintro ⟨h1,h2,h3⟩;exact ⟨h1,h2,by rw [A6f h3];exact Apk h1 h2⟩
end
theorem A4w {α β:Type} {o:Option α} {k:α->Option β} {Q:α->Prop} {R:β->Prop} (h : ∃a,o=some a/\Q a) (h2 : ∀a,Q a -> ∃b,k a=some b/\R b) : ∃b,o.bind k=some b/\R b:=by obtain ⟨a,e,hq⟩:=h;rw [e];exact h2 a hq
theorem Bei {β:Type} {c:Prop} [Decidable c] {x y:Option β} {R:β->Prop} (h1:c -> ∃b,x=some b/\R b) (h2:¬c -> ∃b,y=some b/\R b) : ∃b,(if c then x else y)=some b/\R b:=by
 split
 ·exact h1 ‹_›
 ·exact h2 ‹_›
def Ab3 (a:SAlgebra):Prop:=a.Ops.length<=10 /\ ∀f∈a.Ops,f.Table.length<=101
theorem Ac1 {a:SAlgebra} (h:Ab3 a):Hg a:=⟨by have:=h.1;omega,λf hf=>by have:=h.2 f hf;omega⟩
theorem A0c (s:ByteArray) (hs:s.size<=100) : ∃f,Bh s=some f/\f.Table.length<=100:=by
 have hL:=At;unfold Bh;obtain ⟨f,e,hf⟩:=Ds (body:=Gu s) (λt => ∃j:Nat,t.1=(j:Int)/\j<=s.size/\t.2.Table.length<=j) (λt=>s.size-t.1.toNat) (λf=>f.Table.length<=100) (λt ht=>by
  obtain ⟨x4,x3⟩:=t;obtain ⟨j,g1,g2,g3⟩:=ht;simp only at g1 g2 g3;subst g1;unfold Gu;dsimp only;by_cases hj:(j:Int)<(s.size:Int)
  ·left;rw [ip0 hj,Ae (by omega),Ae (by simp;omega),Ae (by omega)];exact ⟨_,rfl,⟨j+1,rfl,by omega,by simp;omega⟩,by simp only;omega⟩
  ·right;rw [in0 hj];exact ⟨_,rfl,by omega⟩) (s:=((0:Int),({ Arity:=2,Table:=Aw Int }:SOp))) ⟨0,rfl,Nat.zero_le _,by simp [Aw]⟩
 rw [e];exact ⟨_,rfl,hf⟩
theorem A1a {n:Int} (hn:n=2\/n=3) : ∃f,Hj n=some f/\f.Table.length<=100:=by
 have hL:=At;unfold Hj;obtain ⟨f,e,hf⟩:=Ds (body:=Gz n) (λt => ∃j:Nat,t.1=(j:Int)/\j<=27/\t.2.Table.length<=j) (λt=>27-t.1.toNat) (λf=>f.Table.length<=100) (λt ht=>by
  obtain ⟨x4,x3⟩:=t;obtain ⟨j,g1,g2,g3⟩:=ht;simp only at g1 g2 g3;subst g1;unfold Gz;dsimp only;have d1 : ∀m:Int,(j:Int).tdiv m=(j:Int)/m:=λm=>Int.tdiv_eq_ediv_of_nonneg (by omega)
  have d2 : ∀m:Int,(j:Int).tmod m=(j:Int)%m:=λm=>Int.tmod_eq_emod_of_nonneg (by omega)
  rw [d1,d1,d2];rcases hn with rfl | rfl
  ·have d3:((j:Int)/2).tmod 2=((j:Int)/2)%2:=Int.tmod_eq_emod_of_nonneg (by omega);rw [d3];by_cases hj:(j:Int)<2*2*2
   ·left;rw [Ae (by omega),Ae (by omega),ip0 hj];rw [Ae (by omega),Ae (by omega),Ae (by omega),Ae (by omega),Ae (by omega),Ae (by omega),Ae (by omega),Ae (by omega),Ae (by omega),Ae (by simp;omega),Ae (by omega)];exact ⟨_,rfl,⟨j+1,rfl,by omega,by simp;omega⟩,by simp only;omega⟩
   ·right;rw [Ae (by omega),Ae (by omega),in0 hj];exact ⟨_,rfl,by omega⟩
  ·have d3:((j:Int)/3).tmod 3=((j:Int)/3)%3:=Int.tmod_eq_emod_of_nonneg (by omega);rw [d3];by_cases hj:(j:Int)<3*3*3
   ·left;rw [Ae (by omega),Ae (by omega),ip0 hj];rw [Ae (by omega),Ae (by omega),Ae (by omega),Ae (by omega),Ae (by omega),Ae (by omega),Ae (by omega),Ae (by omega),Ae (by omega),Ae (by simp;omega),Ae (by omega)];exact ⟨_,rfl,⟨j+1,rfl,by omega,by simp;omega⟩,by simp only;omega⟩
   ·right;rw [Ae (by omega),Ae (by omega),in0 hj];exact ⟨_,rfl,by omega⟩) (s:=((0:Int),({ Arity:=3,Table:=Aw Int }:SOp))) ⟨0,rfl,Nat.zero_le _,by simp [Aw]⟩
 rw [e];exact ⟨_,rfl,hf⟩
theorem Awz (k:Int) : ∃a,K0 k=some a/\Ab3 a:=by
 have fin0 : ∀ {z:Int},Ab3 { Size:=z,Ops:=Aw SOp }:=⟨by simp [Aw],λf hf=>by simp [Aw] at hf⟩
 have fin1 : ∀ {z:Int} {f:SOp},f.Table.length<=100->Ab3 { Size:=z,Ops:=[f] }:=λh=>⟨by simp,λf hf=>by simp at hf;subst hf;omega⟩
 have fin2 : ∀ {z:Int} {f g:SOp},f.Table.length<=100->g.Table.length<=100->Ab3 { Size:=z,Ops:=[f,g] }:=λh1 h2=>⟨by simp,λf hf=>by simp only [List.mem_cons,List.not_mem_nil,or_false] at hf;rcases hf with rfl | rfl<;>omega⟩
 have fin3 : ∀ {z:Int} {f g e:SOp},f.Table.length<=100->g.Table.length<=100->e.Table.length<=100->Ab3 { Size:=z,Ops:=[f,g,e] }:=λh1 h2 h3=>⟨by simp,λf hf=>by simp only [List.mem_cons,List.not_mem_nil,or_false] at hf;rcases hf with rfl | rfl | rfl<;>omega⟩
 unfold K0
 repeat' (first | refine Bei (λ_=> ?_) (λ_=> ?_) | refine A4w (A0c _ (by decide)) λf hf=> ?_ | refine A4w (A1a (by simp)) λf hf=> ?_)
 all_goals
  first
   | exact ⟨_,rfl,fin0⟩
   | exact ⟨_,rfl,fin1 (by first | assumption | decide)⟩
   | exact ⟨_,rfl,fin2 (by first | assumption | decide) (by first | assumption | decide)⟩
   | exact ⟨_,rfl,fin3 (by first | assumption | decide) (by first | assumption | decide) (by first | assumption | decide)⟩
theorem Av0 {c:Sl1Cur} {k:Nat} (h:Cur k c) (hk:k<=600000000) : ∃a d,Fo c=some (a,d)/\Cur (k+1000) d/\Ab3 a:=by
 have hL:=At;unfold Fo;obtain ⟨b,d,e,hd⟩:=Az2 h (by omega) 4;rw [e];simp only [obs0];by_cases hb:b=true
 ·rw [ip0 hb];obtain ⟨n,d2,e2,hd2,hn⟩:=K3 hd (by omega) [2,2,3,3,4] (by simp);rw [e2];simp only [obs0];obtain ⟨m,d3,e3,hd3,hm⟩:=K3 hd2 (by omega) [1,1,2] (by simp);rw [e3];simp only [obs0];obtain ⟨N,rfl,hN⟩ : ∃N:Nat,n=(N:Int)/\2<=N/\N<=4:=⟨n.toNat,by simp at hn;omega,by simp at hn;omega⟩
  obtain ⟨M,rfl,hM⟩ : ∃M:Nat,m=(M:Int)/\1<=M/\M<=2:=⟨m.toNat,by simp at hm;omega,by simp at hm;omega⟩
  obtain ⟨⟨a,d4⟩,e4,⟨ha1,ha2,ha3⟩,hd4⟩:=Ds (body:=Ed (N:Int)) (λs => ∃j:Nat,s.1=(j:Int)/\j<=M/\s.2.1.Size=(N:Int)/\s.2.1.Ops.length=M-j/\(∀f∈s.2.1.Ops,1<=f.Table.length/\f.Table.length<=64)/\Cur (k+6+200*(M-j)) s.2.2) (λs=>s.1.toNat)
   (λt=>(t.1.Size=(N:Int)/\t.1.Ops.length=M /\ ∀f∈t.1.Ops,1<=f.Table.length/\f.Table.length<=64)/\Cur (k+500) t.2) (λs hs=>by
   obtain ⟨x6,x5,x1⟩:=s;obtain ⟨j,g1,g2,g3,g4,g5,g6⟩:=hs;simp only at g1 g2 g3 g4 g5 g6;subst g1;unfold Ed;dsimp only;by_cases hj:(j:Int)>0
   ·left;rw [ip0 hj];obtain ⟨r,d5,e5,hd5,hr⟩:=K3 g6 (by omega) [0,1,2,2,3] (by simp);rw [e5];simp only [obs0];obtain ⟨R,rfl,hR⟩ : ∃R:Nat,r=(R:Int)/\R<=3:=⟨r.toNat,by simp at hr;omega,by simp at hr;omega⟩
    have hop : ∃f:SOp,((if (N:Int)=4 then if (R:Int)=3 then some ({ Arity:=2,Table:=Aw Int }:SOp) else some { Arity:=(R:Int),Table:=Aw Int } else some { Arity:=(R:Int),Table:=Aw Int }:Option SOp))=some f/\f.Table=[] /\ ∃Q:Nat,f.Arity=(Q:Int)/\1<=N^Q/\N^Q<=64/\Q<=3:=by
     by_cases h4:(N:Int)=4
     ·rw [ip0 h4];have h4:N=4:=by omega
      subst h4;by_cases h3:(R:Int)=3
      ·rw [ip0 h3];exact ⟨_,rfl,rfl,2,rfl,by decide⟩
      ·rw [in0 h3];refine ⟨_,rfl,rfl,R,rfl,?_⟩;have:R=0\/R=1\/R=2:=by omega
       rcases this with rfl | rfl | rfl<;>decide
     ·rw [in0 h4];refine ⟨_,rfl,rfl,R,rfl,?_⟩;have h5:N=2\/N=3:=by omega
      have:R=0\/R=1\/R=2\/R=3:=by omega
      rcases h5 with rfl | rfl<;>rcases this with rfl | rfl | rfl | rfl<;>decide
    obtain ⟨f,ef,ht,Q,hQ,q1,q2,q3⟩:=hop;rw [ef];simp only [obs0];rw [hQ,A44 (by omega) q3];simp only [obs0];obtain ⟨⟨f2,d6⟩,e6,hf2,hd6⟩:=Ds (body:=Eb (N:Int) (j:Int) x5) (λs => ∃i:Nat,s.1=(i:Int)/\i<=N^Q/\s.2.1.Table.length=N^Q-i/\Cur (k+6+200*(M-j)+2+2*(N^Q-i)) s.2.2) (λs=>s.1.toNat) (λt=>t.1.Table.length=N^Q/\Cur (k+6+200*(M-j)+2+2*N^Q) t.2) (λs hs=>by
     obtain ⟨x8,x7,x9⟩:=s;obtain ⟨i,k1,k2,k3,k4⟩:=hs;simp only at k1 k2 k3 k4;subst k1;unfold Eb;dsimp only;by_cases hi:(i:Int)>0
     ·left;rw [ip0 hi];obtain ⟨v,d7,e7,hd7,_⟩:=Fb k4 (by omega) (N:Int);rw [e7];simp only [obs0];rw [Ae (by simp;omega),Ae (by omega)];exact ⟨_,rfl,⟨i-1,by simp only;omega,by omega,by simp;omega,hd7.mono (by omega)⟩,by simp only;omega⟩
     ·right;rw [in0 hi];exact ⟨_,rfl,by simp only;omega,k4.mono (by omega)⟩) (s:=(((N^Q:Nat):Int),f,d5)) ⟨N^Q,rfl,Nat.le_refl _,by simp [ht],hd5.mono (by omega)⟩
    rw [e6];simp only [obs0];rw [Ae (by simp;omega),Ae (by omega)];simp only at hf2 hd6;refine ⟨_,rfl,⟨j-1,by simp only;omega,by omega,g3,by simp;omega,λf hf=> ?_,hd6.mono (by omega)⟩,by simp only;omega⟩;rcases List.mem_append.1 hf with h' | h'
    ·exact g5 f h'
    ·rw [List.mem_singleton.1 h'];omega
   ·right;rw [in0 hj];exact ⟨_,rfl,⟨g3,by simp only;omega,g5⟩,g6.mono (by omega)⟩) (s:=((M:Int),({ Size:=(N:Int),Ops:=Aw SOp }:SAlgebra),d3)) ⟨M,rfl,Nat.le_refl _,rfl,by simp [Aw],λf hf=>by simp [Aw] at hf,hd3.mono (by omega)⟩
  rw [e4];simp only [obs0];simp only at ha1 ha2 ha3 hd4;have h0:0<a.Ops.length:=by omega
  have hf0:=ha3 _ (Aj h0);have ht:Ab3 a:=⟨by omega,λf hf=>by have:=ha3 f hf;omega⟩
  have hset : ∀ {z:Int} {f:SOp},f.Table.length<=101->Ab3 { Size:=z,Ops:=a.Ops.set (Int.toNat 0) f }:=λhf=>⟨by simp;omega,λg hg=>by
   rcases List.mem_or_eq_of_mem_set hg with h' | h'
   ·have:=ha3 g h';omega
   ·rw [h'];exact hf⟩
  obtain ⟨w,d5,e5,hd5,w0,_⟩:=Fb hd4 (by omega) 16;rw [e5];simp only [obs0];by_cases c0:w=0
  ·rw [ip0 c0,Ae (by omega)];obtain ⟨r,d6,e6,hd6,_⟩:=K3 hd5 (by omega) [0,9,(N:Int)+1] (by simp);rw [e6];exact ⟨_,_,rfl,hd6.mono (by omega),ht⟩
  rw [in0 c0];by_cases c1:w=1
  ·rw [ip0 c1,Ae (by omega),Ae (by simp only [Int.toNat_zero,List.length_singleton];omega)];exact ⟨_,_,rfl,hd5.mono (by omega),hset (by simp only [Int.toNat_zero,List.length_append,List.length_singleton];omega)⟩
  rw [in0 c1];by_cases c2:w=2
  ·rw [ip0 c2,Ae (by omega)];obtain ⟨r,d6,e6,hd6,r0,r1⟩:=Fb hd5 (by omega) ((nth a.Ops (Int.toNat 0)).Table.length:Int);rw [e6];simp only [obs0];obtain ⟨s,d7,e7,hd7,_⟩:=K3 hd6 (by omega) [-1,(N:Int)] (by simp);rw [e7];simp only [obs0];simp only [Int.toNat_zero] at r1 ⊢;rw [Ae (by omega)];exact ⟨_,_,rfl,hd7.mono (by omega),hset (by simp only [List.length_set];omega)⟩
  rw [in0 c2];by_cases c3:w=3
  ·rw [ip0 c3];obtain ⟨r,d6,e6,hd6,_⟩:=K3 hd5 (by omega) [-1,4] (by simp);rw [e6];simp only [obs0];rw [Ae (by omega)];exact ⟨_,_,rfl,hd6.mono (by omega),hset (by simp only [Int.toNat_zero];omega)⟩
  rw [in0 c3];by_cases c4:w=4
  ·rw [ip0 c4];obtain ⟨⟨a2,d6⟩,e6,ht2,hd6⟩:=Ds (body:=Ea (N:Int)) (λs=>s.1.Ops.length<=5/\(∀f∈s.1.Ops,f.Table.length<=64)/\Cur (k+502+2*s.1.Ops.length) s.2) (λs=>5-s.1.Ops.length) (λt=>Ab3 t.1/\Cur (k+600) t.2) (λs hs=>by
    obtain ⟨x5,x1⟩:=s;obtain ⟨g1,g2,g3⟩:=hs;simp only at g1 g2 g3;unfold Ea;dsimp only;obtain ⟨r,d7,e7,hd7,r0,r1⟩:=Fb g3 (by omega) 2;rw [e7];simp only [obs0];rw [Ae (by omega)];by_cases hl:(x5.Ops.length:Int)<4+r
    ·left;rw [ip0 hl,Ae (by omega),Ae (by simp;omega)];refine ⟨_,rfl,⟨by simp;omega,λf hf=> ?_,hd7.mono (by simp;omega)⟩,by simp;omega⟩;rcases List.mem_append.1 hf with h' | h'
     ·exact g2 f h'
     ·rw [List.mem_singleton.1 h'];simp;omega
    ·right;rw [in0 hl];exact ⟨_,rfl,⟨by simp only;omega,λf hf=>by have:=g2 f hf;omega⟩,hd7.mono (by omega)⟩) (s:=(a,d5)) ⟨by simp only;omega,λf hf=>(ha3 f hf).2,hd5.mono (by omega)⟩
   rw [e6];exact ⟨_,_,rfl,hd6.mono (by omega),ht2⟩
  rw [in0 c4];exact ⟨_,_,rfl,hd5.mono (by omega),ht⟩
 ·rw [in0 hb];obtain ⟨r,d2,e2,hd2,_⟩:=Fb hd (by omega) 17;rw [e2];simp only [obs0];obtain ⟨a,e3,ht⟩:=Awz r;rw [e3];exact ⟨_,_,rfl,hd2.mono (by omega),ht⟩
theorem Bcg {code:List Int} (hc : ∀x∈code,0<=x/\x<=255) (hl:code.length<=65536):Cur 0 ({ code:=code,at_:=0,seed:=0 }:Sl1Cur):=⟨hc,hl,Int.le_refl _,Int.le_refl _⟩
theorem Bd6 {xs:List Int} (h:xs.length<=LIM):Em xs=some xs:=by unfold Em;rw [Ae (by show 0+xs.length<=_;omega)];rfl
def A8p (a b:SAlgebra) (f:List Int) (n m i k:Nat):Prop:=i<a.Ops.length/\k<(nth a.Ops i).Table.length/\Ue a b f n m i k /\
 (∀j,j<i -> ∀l,l<(nth a.Ops j).Table.length->¬Ue a b f n m j l) /\ ∀l,l<k->¬Ue a b f n m i l
section
variable {a b:SAlgebra} {f:List Int} {n m:Nat}
theorem A8p.faulty {i k:Nat} (h:A8p a b f n m i k):faulty a b f n m:=⟨i,h.1,k,h.2.1,h.2.2.1⟩
end
def Tp (a b:SAlgebra):Prop:=Ca a/\Ca b/\Fn a=Fn b
def Bfi (a b:SAlgebra) (f:List Int):Prop:=(f.length:Int)=a.Size/\Bc f b.Size
def Kp (a b:SAlgebra) (f:List Int):Prop:=Tp a b/\Bfi a b f/\¬faulty a b f a.Size.toNat b.Size.toNat
section
variable {a b:SAlgebra} {f:List Int}
theorem Apd (h:Tp a b) (h2:Bfi a b f):Homs a b f a.Size.toNat b.Size.toNat:=by have h3:=h.1.1;have h4:=h.2.1.1;exact ⟨h.1,h.2.1,h.2.2,by omega,by omega,by have:=h2.1;omega,by rw [show ((b.Size.toNat:Nat):Int)=b.Size by omega];exact h2.2⟩
end
def Am (f g:List Int):List Int:=f.map λx=>nth g x.toNat
theorem Aeu {f g:List Int} (hl:f.length<=LIM) (hx:Bc f g.length):Fq f g=some (Am f g):=by
 have hL:=At;unfold Fq;rw [Ae (by omega),tna0];have key:=Bn (body:=Eo f g) (λi=>((i:Int),(Am f g).take i++List.replicate (f.length-i) 0)) f.length (Am f g) (λi hi=>by
  unfold Eo;dsimp only;have hv:=hx _ (Aj hi);have hcl:(Am f g).length=f.length:=by simp [Am]
  rw [ip0 (by omega),Ae (by omega),tna0,Ae (by omega),Ae (by simp;omega),Ae (by omega),C9 (by omega),show f.length-i=(f.length-(i+1))+1 by omega,List.replicate_succ];have e:nth (Am f g) i=nth g (nth f i).toNat:=Bk _ hi;rw [e];congr 3;have h1:((Am f g).take i).length=i:=by simp;omega
  rw [List.set_append,in0 (by omega),h1,Nat.sub_self,List.set_cons_zero,List.append_assoc];rfl) (by
  unfold Eo;dsimp only;rw [in0 (by omega),Nat.sub_self,List.take_of_length_le (by simp [Am])];simp)
 have key':Ak (Eo f g) (0,List.replicate f.length 0)=some (Am f g):=by simpa using key
 rw [key'];rfl
theorem Aak {n m l:Nat} (hn:0<n) {f g:List Int} (hf:f.length=n) (hfx:Bc f m) (hm:0<m) : ∀r k,∃c:Nat,I9 n m f r k=(c:Int)/\I9 n l (Am f g) r k=I9 m l g r c:=by
 intro r
 induction r with
 | zero=>intro k;exact ⟨0,rfl,rfl⟩
 | succ r ih=>
   intro k;obtain ⟨c,h1,h2⟩:=ih (k/n);have hk:=Nat.mod_lt k hn;have hv:=hfx _ (Aj (show k%n<f.length by omega));obtain ⟨d,hd⟩:=Int.eq_ofNat_of_zero_le hv.1;refine ⟨c*m+d,?_,?_⟩
   ·simp only [I9,h1,hd];push_cast;rfl
   ·have hdm:d<m:=by omega
    have e1:(c*m+d)/m=c:=by rw [Nat.mul_comm,Nat.mul_add_div hm,Nat.div_eq_of_lt hdm];omega
    have e2:(c*m+d)%m=d:=by rw [Nat.mul_comm,Nat.mul_add_mod,Nat.mod_eq_of_lt hdm]
    simp only [I9,h2,e1,e2];have e3:nth (Am f g) (k%n)=nth g (nth f (k%n)).toNat:=Bk _ (by omega);rw [e3,hd,tna0]
section
variable {a b c:SAlgebra} {f g:List Int}
theorem A0b (h1:Kp a b f) (h2:Kp b c g):Kp a c (Am f g):=by
 have hg:g.length=b.Size.toNat:=by have:=h2.2.1.1;have:=h2.1.1.1;omega
 have H1:=Apd h1.1 h1.2.1;have H2:=Apd h2.1 h2.2.1;obtain ⟨hn,hn8,hm,hm8⟩:=H1.pos;refine ⟨⟨h1.1.1,h2.1.2.1,h1.1.2.2.trans h2.1.2.2⟩,⟨by simp only [Am,List.length_map];exact h1.2.1.1,?_⟩,?_⟩
 ·intro y hy;obtain ⟨x,hx,rfl⟩:=List.mem_map.1 hy;have h3:=h1.2.1.2 x hx;exact h2.2.1.2 _ (Aj (by omega))
 ·rintro ⟨i,hi,k,hk,hF⟩;have hib:i<b.Ops.length:=by rw [<-H1.ops];exact hi
  obtain ⟨r,hr,e1,e2,l1,l2,t1,l3⟩:=H1.op hi;obtain ⟨p,hp1,hp2⟩:=H1.low (r:=r) (k:=k) hr;have er:(nth a.Ops i).Arity.toNat=r:=by omega
  have er2:(nth b.Ops i).Arity.toNat=r:=by omega
  have n1:¬Ue a b f a.Size.toNat b.Size.toNat i k:=λhx=>h1.2.2 ⟨i,hi,k,hk,hx⟩
  have n2:¬Ue b c g b.Size.toNat c.Size.toNat i p:=λhx=>h2.2.2 ⟨i,hib,p,by omega,hx⟩
  unfold Ue at hF n1 n2;rw [er] at hF n1;rw [er2] at n2;have n1:=Classical.not_not.1 n1;have n2:=Classical.not_not.1 n2;rw [hp1,tna0] at n1;obtain ⟨q,hq1,hq2⟩:=Aak hn H1.len H1.fin hm r k (g:=g) (l:=c.Size.toNat);rw [hp1] at hq1;have hq1:=Int.ofNat.inj hq1;subst hq1;refine hF ?_;have hv:=t1 _ (Aj hk);have hfl:=H1.len;have e3:nth (Am f g) (nth (nth a.Ops i).Table k).toNat=nth g (nth f (nth (nth a.Ops i).Table k).toNat).toNat:=Bk _ (by omega);rw [e3,n1,n2,hq2]
end
section
variable {a b:SAlgebra} {f:List Int}
theorem A6j {n:Nat} {j:List Int} (h:Perm f n) (hjf : ∀x,x<n->nth j (nth f x).toNat=(x:Int)) : ∀y,y<n -> ∃x,x<n/\nth j y=(x:Int)/\nth f x=(y:Int):=by intro y hy;obtain ⟨x,hx,e⟩:=h.onto hy;refine ⟨x,hx,?_,e⟩;have:=hjf x hx;rw [e,tna0] at this;exact this
theorem A83 {n:Nat} {j:List Int} (h:Perm f n) (hj:j.length=n) (hjf : ∀x,x<n->nth j (nth f x).toNat=(x:Int)):Bc j n:=by
 intro v hv;obtain ⟨i,hi,e⟩:=List.getElem_of_mem hv;obtain ⟨x,hx,e2,_⟩:=A6j h hjf i (by omega);have e3:v=nth j i:=by rw [Ce hi,e]
 omega
theorem Bbz {j:List Int} (h:Kp a b f) (hS:a.Size=b.Size) (hP:Perm f a.Size.toNat) (hj:j.length=a.Size.toNat) (hjf : ∀x,x<a.Size.toNat->nth j (nth f x).toNat=(x:Int)):Kp b a j:=by
 have H:=Apd h.1 h.2.1;obtain ⟨hn,hn8,_,_⟩:=H.pos;have hSz:=H.sa;have hin:=A83 hP hj hjf;refine ⟨⟨h.1.2.1,h.1.1,h.1.2.2.symm⟩,⟨by omega,by rw [<-hSz] at hin;exact hin⟩,?_⟩;rintro ⟨i,hi,k,hk,hF⟩;have hia:i<a.Ops.length:=by rw [H.ops];exact hi
 obtain ⟨r,hr,e1,e2,l1,l2,t1,l3⟩:=H.op hia;have er:(nth a.Ops i).Arity.toNat=r:=by omega
 have er2:(nth b.Ops i).Arity.toNat=r:=by omega
 have hbn:b.Size.toNat=a.Size.toNat:=by rw [hS]
 rw [hbn] at hF l2;obtain ⟨k',hk',ek⟩:=A7y hP hn r k (by omega);have n1:¬Ue a b f a.Size.toNat b.Size.toNat i k':=λhx=>h.2.2 ⟨i,hia,k',by omega,hx⟩
 rw [hbn] at n1;unfold Ue at hF n1;rw [er] at n1;rw [er2] at hF;have n1:=Classical.not_not.1 n1;rw [ek,tna0] at n1;refine hF ?_;rw [<-n1];have hv:=t1 _ (Aj (show k'<(nth a.Ops i).Table.length by omega));have h3:=hjf (nth (nth a.Ops i).Table k').toNat (by omega);rw [h3];have e3:I9 a.Size.toNat a.Size.toNat j r k=(k':Int):=by
  have key : ∀r k',k'<a.Size.toNat^r -> ∀c:Nat,I9 a.Size.toNat a.Size.toNat f r k'=(c:Int)->I9 a.Size.toNat a.Size.toNat j r c=(k':Int):=by
   intro r
   induction r with
   | zero=>intro k' hk' c _;simp at hk';subst hk';rfl
   | succ r ih=>
     intro k' hk' c hc;obtain ⟨d,hd1,hd2⟩:=Bdj hP hn hn8 (r:=0) (by omega) 0;have hq:=Nat.mod_lt k' hn;have hfv:=hP.fin _ (Aj (show k'%a.Size.toNat<f.length by rw [hP.len];exact hq));obtain ⟨y,hy⟩:=Int.eq_ofNat_of_zero_le hfv.1;have hdiv:k'/a.Size.toNat<a.Size.toNat^r:=Nat.div_lt_of_lt_mul (by rw [Nat.mul_comm,<-Nat.pow_succ];exact hk');obtain ⟨e0,he0⟩ : ∃e0:Nat,I9 a.Size.toNat a.Size.toNat f r (k'/a.Size.toNat)=(e0:Int):=by obtain ⟨z,hz,_⟩:=Aak hn hP.len hP.fin hn r (k'/a.Size.toNat) (g:=f) (l:=a.Size.toNat);exact ⟨z,hz⟩
     have ih2:=ih _ hdiv e0 he0;simp only [I9,he0,hy] at hc;have hc2:c=e0*a.Size.toNat+y:=by
      have:((e0*a.Size.toNat+y:Nat):Int)=(c:Int):=by rw [<-hc];push_cast;rfl
      omega
     have hyn:y<a.Size.toNat:=by omega
     have q1:c/a.Size.toNat=e0:=by rw [hc2,Nat.mul_comm,Nat.mul_add_div hn,Nat.div_eq_of_lt hyn];omega
     have q2:c%a.Size.toNat=y:=by rw [hc2,Nat.mul_comm,Nat.mul_add_mod,Nat.mod_eq_of_lt hyn]
     simp only [I9,q1,q2,ih2];have h4:=hjf (k'%a.Size.toNat) hq;rw [hy] at h4;simp only [tna0] at h4;have h5:nth j y=((k'%a.Size.toNat:Nat):Int):=h4;rw [h5];rw [<-Int.natCast_mul,<-Int.natCast_add,Nat.mul_comm,Nat.div_add_mod]
  exact key r k' (by omega) k ek
 rw [e3,tna0];omega
end
def okF (n m:Nat) (f:List Int):Prop:=f.length=n /\ ∀x∈f, -1<=x/\x<m
def Cm (f:List Int):Nat:=f.countP λx=>decide (x<0)
theorem okF.set {n m:Nat} {f:List Int} (h:okF n m f) {i:Nat} {y:Int} (hy:0<=y/\y<m):okF n m (f.set i y):=by
 refine ⟨by rw [List.length_set];exact h.1,λx hx=> ?_⟩;rcases List.mem_or_eq_of_mem_set hx with h1 | h1
 ·exact h.2 x h1
 ·subst h1;omega
theorem Aep {f:List Int} {i:Nat} (hi:i<f.length) (hf:nth f i<0) {y:Int} (hy:0<=y):Cm (f.set i y)<Cm f:=by unfold Cm;rw [List.countP_set hi];have e:f[i]=nth f i:=(Ce hi).symm;have hp:0<f.countP (λx=>decide (x<0)):=List.countP_pos_iff.2 ⟨nth f i,Aj hi,dtr0 hf⟩;rw [e,ip0 (dtr0 hf),in0 (by simp;omega)];omega
section
variable {a b:SAlgebra} {n m:Nat}
structure Pair (a b:SAlgebra) (n m:Nat):Prop where
 al:Tp a b
 sa:a.Size=n
 sb:b.Size=m
theorem Pair.pos (h:Pair a b n m):0<n/\n<=8/\0<m/\m<=8:=by have:=h.sa;have:=h.sb;have:=h.al.1.1;have:=h.al.1.2.1;have:=h.al.2.1.1;have:=h.al.2.1.2.1;omega
theorem Pair.op (h:Pair a b n m) {i:Nat} (hi:i<a.Ops.length):i<b.Ops.length /\ ∃r:Nat,r<=3/\(nth a.Ops i).Arity=r/\(nth a.Ops i).Table.length=n^r/\(nth b.Ops i).Table.length=m^r/\Bc (nth a.Ops i).Table n/\Bc (nth b.Ops i).Table m/\n^r<=512:=by
 obtain ⟨hn,hn8,hm,hm8⟩:=h.pos;have H:Homs a b (List.replicate n 0) n m:=⟨h.al.1,h.al.2.1,h.al.2.2,h.sa,h.sb,by simp,λx hx=>by rw [(List.mem_replicate.1 hx).2];omega⟩
 obtain ⟨r,h1,h2,h3,h4,h5,h6,h7⟩:=H.op hi;have hib:i<b.Ops.length:=by rw [<-H.ops];exact hi
 have hb:=h.al.2.1.2.2.2 _ (Aj hib);have hmm:b.Size.toNat=m:=by have:=h.sb;omega
 exact ⟨hib,r,h1,h2,h4,h5,h6,by have:=hb.2.2.2;rwa [hmm] at this,h7⟩
structure Srch (a b:SAlgebra) (n M:Nat) (s:Sl7Search):Prop where
 a:s.a=a
 b:s.b=b
 most:s.most=M
 t0:0<=s.tries
 t1:s.tries<=5001
 fl:s.found.length<=M
 rows : ∀r∈s.found,r.length=n
end
theorem Bd7 {α β γ:Type} {F:Nat->α->β->Option γ} (h0 : ∀a b,F 0 a b=none) (h : ∀n,(∀a b,LeO (F n a b) (F (n+1) a b)) -> ∀a b,LeO (F (n+1) a b) (F (n+2) a b)) (a:α) (b:β):upO λn=>F n a b:=by
 have step : ∀n,∀a b,LeO (F n a b) (F (n+1) a b):=by
  intro n
  induction n with
  | zero=>intro a b v e;rw [h0] at e;cases e
  | succ n ih=>exact h n ih
 have key : ∀n k v,F n a b=some v->F (n+k) a b=some v:=by
  intro n k v e
  induction k with
  | zero=>exact e
  | succ k ih=>exact step (n+k) a b v ih
 intro n m v hnm e;have:=key n (m-n) v e
 rwa [show n+(m-n)=m by omega] at this
theorem A4g {a b:SAlgebra} (h:Tp a b):Pair a b a.Size.toNat b.Size.toNat:=⟨h,by have:=h.1.1;omega,by have:=h.2.1.1;omega⟩
theorem Ahd {a:SAlgebra} {n:Nat} {xs:List Int} (hx:Ei a n xs):xs.length<=n:=by rw [<-hx.2.2];exact Cz _ _
def Amu {σ:Type} (step:Nat->σ->Option σ):Nat->Nat->σ->Option σ
 | 0,_,s=>some s
 | c+1,i,s=>(step i s).bind (Amu step c (i+1))
theorem A0i {σ α τ:Type} {body:Int×σ->Option ((Int×σ) ⊕ (α ⊕ τ))} {step:Nat->σ->Option σ} (inv:σ->Prop) (out:σ->τ) (N:Nat)
  (h1 : ∀i s s',i<N->inv s->step i s=some s'->inv s'/\body ((i:Int),s)=some (.inl (((i+1:Nat):Int),s')))
  (h2 : ∀i s,i<N->inv s->step i s=none -> ∃e,body ((i:Int),s)=some (.inr (.inl e)))
  (h3 : ∀s,inv s->body ((N:Int),s)=some (.inr (.inr (out s)))) : ∀c i s,i+c=N->inv s ->
  (∃s',Amu step c i s=some s'/\inv s'/\Ak body ((i:Int),s)=some (.inr (out s')))\/(Amu step c i s=none /\ ∃e,Ak body ((i:Int),s)=some (.inl e)):=by
 intro c
 induction c with
 | zero=>
   intro i s hi hs;have:i=N:=by omega
   subst this;exact .inl ⟨s,rfl,hs,Cv (h3 s hs)⟩
 | succ c ih=>
   intro i s hi hs;simp only [Amu];cases e:step i s with
   | none=> obtain ⟨x,hx⟩:=h2 i s (by omega) hs e;exact .inr ⟨rfl,x,Cv hx⟩
   | some s'=> obtain ⟨k1,k2⟩:=h1 i s s' (by omega) hs e;rw [F6 k2];exact ih (i+1) s' (by omega) k1
theorem Avc {σ:Type} {step:Nat->σ->Option σ} (P:σ->Prop) : ∀c i s s',(∀j t t',i<=j->j<i+c->P t->step j t=some t'->P t')->P s->Amu step c i s=some s'->P s':=by
 intro c
 induction c with
 | zero=>intro i s s' _ h1 h2;cases h2;exact h1
 | succ c ih=> intro i s s' h h1 h2;simp only [Amu] at h2;obtain ⟨t,h3,h4⟩:=Option.bind_eq_some_iff.1 h2;exact ih (i+1) t s' (λj t t' k1 k2=>h j t t' (by omega) (by omega)) (h i s t (Nat.le_refl _) (by omega) h1 h3) h4
theorem Avz {σ:Type} {step:Nat->σ->Option σ} (P:σ->Prop) : ∀c i s,(∀j t,i<=j->j<i+c->P t -> ∃t',step j t=some t'/\P t')->P s -> ∃s',Amu step c i s=some s'/\P s':=by
 intro c
 induction c with
 | zero=>intro i s _ h1;exact ⟨s,rfl,h1⟩
 | succ c ih=> intro i s h h1;simp only [Amu];obtain ⟨t,h2,h3⟩:=h i s (Nat.le_refl _) (by omega) h1;rw [h2];exact ih (i+1) t (λj t k1 k2=>h j t (by omega) (by omega)) h3
theorem Asj {σ:Type} {step:Nat->σ->Option σ} (P moved:σ->Prop) : ∀c i s s',(∀j t t',i<=j->j<i+c->P t->step j t=some t'->P t'/\(t'=t\/moved t')/\(moved t->moved t'))->P s->Amu step c i s=some s'->¬moved s' ->
  s'=s /\ ∀j,i<=j->j<i+c->step j s=some s:=by
 intro c
 induction c with
 | zero=>intro i s s' _ _ h2 _;cases h2;exact ⟨rfl,λj k1 k2=>by omega⟩
 | succ c ih=>
   intro i s s' h h1 h2 h3;simp only [Amu] at h2;obtain ⟨t,h4,h5⟩:=Option.bind_eq_some_iff.1 h2;obtain ⟨g1,g2,g3⟩:=h i s t (Nat.le_refl _) (by omega) h1 h4;obtain ⟨e1,e2⟩:=ih (i+1) t s' (λj t t' k1 k2=>h j t t' (by omega) (by omega)) g1 h5 h3;subst e1;rcases g2 with rfl | hm
   ·refine ⟨rfl,λj k1 k2=> ?_⟩;by_cases hj:j=i
    ·subst hj;exact h4
    ·exact e2 j (by omega) (by omega)
   ·exact absurd hm h3
def O8 (n:Nat) (g:List Int) (r k:Nat):List Int:=(B0 n r k).map λx=>nth g x.toNat
theorem Auv (n:Nat) (g:List Int) (r k:Nat):O8 n g (r+1) k=O8 n g r (k/n)++[nth g (k%n)]:=by simp only [O8,B0,List.map_append,List.map_cons,List.map_nil,tna0]
theorem Ai3 (n:Nat) (g:List Int) (r k:Nat):(O8 n g r k).length=r:=by simp [O8,C7]
theorem Awl {n m:Nat} (hn:0<n) {g:List Int} (hg:okF n m g) (r k:Nat) (h:(-1:Int)∉O8 n g r k):Bc (O8 n g r k) m:=by
 intro y hy;obtain ⟨x,hx,rfl⟩:=List.mem_map.1 hy;have h1:=Ii hn r k x hx;have h2:=hg.2 _ (Aj (show x.toNat<g.length by have:=hg.1;omega));have h3:nth g x.toNat ≠ -1:=λhe=>h (List.mem_map.2 ⟨x,hx,he⟩)
 omega
noncomputable def U8 (a b:SAlgebra) (n m i k:Nat) (s:Bool×List Int):Option (Bool×List Int):=
 if (-1:Int)∈O8 n s.2 (nth a.Ops i).Arity.toNat k then some s
 else if 0<=nth s.2 (nth (nth a.Ops i).Table k).toNat then
  (if nth s.2 (nth (nth a.Ops i).Table k).toNat=nth (nth b.Ops i).Table (Pv m (O8 n s.2 (nth a.Ops i).Arity.toNat k)).toNat then some s else none)
 else some (true,s.2.set (nth (nth a.Ops i).Table k).toNat (nth (nth b.Ops i).Table (Pv m (O8 n s.2 (nth a.Ops i).Arity.toNat k)).toNat))
noncomputable def opZ (a b:SAlgebra) (n m i:Nat) (s:Bool×List Int):Option (Bool×List Int):=Amu (U8 a b n m i) (nth a.Ops i).Table.length 0 s
noncomputable def Alj (a b:SAlgebra) (n m:Nat) (g:List Int):Option (Bool×List Int):=Amu (opZ a b n m) a.Ops.length 0 (false,g)
noncomputable def Aav (a b:SAlgebra) (n m:Nat):Nat->List Int->Option (List Int)
 | 0,g=>some g
 | k+1,g=>match Alj a b n m g with
   | none=>none
   | some (c,g')=>if c=true then Aav a b n m k g' else some g'
noncomputable def Aps (a b:SAlgebra) (n m:Nat) (g:List Int):Option (List Int):=Aav a b n m (Cm g+1) g
def ext (g h:List Int):Prop := ∀x,x<g.length->0<=nth g x->nth h x=nth g x
theorem Adi (g:List Int):ext g g:=λ_ _ _=>rfl
theorem Aao {f g h:List Int} (hl:f.length=g.length) (h1:ext f g) (h2:ext g h):ext f h:=λx hx h0=>by have e:=h1 x hx h0;rw [h2 x (by omega) (by omega),e]
section
variable {a b:SAlgebra} {n m:Nat}
theorem Pair.arity (h:Pair a b n m) {i:Nat} (hi:i<a.Ops.length):(nth a.Ops i).Arity.toNat<=3/\((nth a.Ops i).Arity:Int)=((nth a.Ops i).Arity.toNat:Nat)/\(nth a.Ops i).Table.length=n^(nth a.Ops i).Arity.toNat/\(nth b.Ops i).Table.length=m^(nth a.Ops i).Arity.toNat:=by obtain ⟨_,r,hr,e1,l1,l2,_⟩:=h.op hi;rw [e1,tna0];exact ⟨hr,rfl,l1,l2⟩
theorem Ba2 (h:Pair a b n m) {i k:Nat} (hi:i<a.Ops.length) {g:List Int} (hg:okF n m g) (ho:(-1:Int)∉O8 n g (nth a.Ops i).Arity.toNat k) :
  ∃p:Nat,Pv m (O8 n g (nth a.Ops i).Arity.toNat k)=(p:Int)/\p<(nth b.Ops i).Table.length/\0<=nth (nth b.Ops i).Table p/\nth (nth b.Ops i).Table p<m:=by
 obtain ⟨hn,hn8,hm,hm8⟩:=h.pos;obtain ⟨_,r,hr,e1,l1,l2,t1,t2,_⟩:=h.op hi;obtain ⟨hr3,_,_,l4⟩:=h.arity hi;have hin:=Awl hn hg _ k ho;obtain ⟨p,hp1,hp2,_⟩:=Na hm8 (xs:=O8 n g (nth a.Ops i).Arity.toNat k) (by rw [Ai3];exact hr3) hin;rw [Ai3] at hp2;have hp:p<(nth b.Ops i).Table.length:=by rw [l4];exact hp2
 have:=t2 _ (Aj hp);exact ⟨p,hp1,hp,this.1,this.2⟩
theorem Ajb (h:Pair a b n m) {i k:Nat} (hi:i<a.Ops.length) (hk:k<(nth a.Ops i).Table.length) {s s':Bool×List Int} (hs:okF n m s.2) (e:U8 a b n m i k s=some s') :
  okF n m s'.2/\ext s.2 s'.2/\Cm s'.2<=Cm s.2/\(s'=s\/(s'.1=true/\Cm s'.2<Cm s.2))/\(s.1=true->s'.1=true):=by
 obtain ⟨_,r,hr,e1,l1,l2,t1,t2,_⟩:=h.op hi;have hv:=t1 _ (Aj hk);have hl:=hs.1;unfold U8 at e;split at e
 ·cases e;exact ⟨hs,Adi _,Nat.le_refl _,.inl rfl,id⟩
 ·rename_i ho;split at e
  ·split at e
   ·cases e;exact ⟨hs,Adi _,Nat.le_refl _,.inl rfl,id⟩
   ·cases e
  ·rename_i h0;obtain ⟨p,hp1,hp2,hp3,hp4⟩:=Ba2 h hi hs ho;rw [hp1,tna0] at e;cases e;have hlt:=Aep (f:=s.2) (i:=(nth (nth a.Ops i).Table k).toNat) (by omega) (by omega) hp3;refine ⟨hs.set ⟨hp3,hp4⟩,λx hx hx0=> ?_,Nat.le_of_lt hlt,.inr ⟨rfl,hlt⟩,λ_=>rfl⟩;show nth (s.2.set _ _) x=_;rw [Jd _ _ _ _ hx];split
   ·rename_i e2;subst e2;omega
   ·rfl
theorem A5p (h:Pair a b n m) {i k:Nat} (hi:i<a.Ops.length) (hk:k<(nth a.Ops i).Table.length) {s:Bool×List Int} (hs:okF n m s.2) {f:List Int} (_hf:Homs a b f n m) (hn:¬faulty a b f n m) (he:ext s.2 f) :
  ∃s',U8 a b n m i k s=some s'/\ext s'.2 f:=by
 obtain ⟨hn0,_,_,_⟩:=h.pos;obtain ⟨_,r,hr,e1,l1,l2,t1,t2,_⟩:=h.op hi;have hv:=t1 _ (Aj hk);have hl:=hs.1;unfold U8;split
 ·exact ⟨s,rfl,he⟩
 ·rename_i ho;have hin:=Awl hn0 hs _ k ho;have himg:O8 n s.2 (nth a.Ops i).Arity.toNat k=O8 n f (nth a.Ops i).Arity.toNat k:=by
   unfold O8;refine List.map_congr_left λx hx=> ?_
   have h1:=Ii hn0 _ k x hx;exact (he x.toNat (by omega) (hin _ (List.mem_map.2 ⟨x,hx,rfl⟩)).1).symm
  have hval:nth f (nth (nth a.Ops i).Table k).toNat=nth (nth b.Ops i).Table (Pv m (O8 n s.2 (nth a.Ops i).Arity.toNat k)).toNat:=by rw [himg];unfold O8;rw [Hs];exact Classical.not_not.1 λhx=>hn ⟨i,hi,k,hk,hx⟩
  rw [<-hval];split
  ·rename_i h0;rw [ip0 (he _ (by omega) h0).symm];exact ⟨s,rfl,he⟩
  ·refine ⟨_,rfl,λx hx h1=> ?_⟩;simp only [List.length_set] at hx;show _=nth (s.2.set _ _) x;have h2:0<=nth (s.2.set (nth (nth a.Ops i).Table k).toNat (nth f (nth (nth a.Ops i).Table k).toNat)) x:=h1;rw [Jd _ _ _ _ hx] at h2 ⊢;split at h2
   ·rename_i e2;rw [ip0 e2,e2]
   ·rename_i e2;rw [in0 e2];exact he x hx h2
theorem A26 (h:Pair a b n m) {i:Nat} (hi:i<a.Ops.length) {s s':Bool×List Int} (hs:okF n m s.2) (e:opZ a b n m i s=some s') :
  okF n m s'.2/\ext s.2 s'.2/\Cm s'.2<=Cm s.2/\(s'=s\/(s'.1=true/\Cm s'.2<Cm s.2))/\(s.1=true->s'.1=true):=by
 refine Avc (step:=U8 a b n m i) (λt=>okF n m t.2/\ext s.2 t.2/\Cm t.2<=Cm s.2/\(t=s\/(t.1=true/\Cm t.2<Cm s.2))/\(s.1=true->t.1=true)) _ 0 s s' ?_ ⟨hs,Adi _,Nat.le_refl _,.inl rfl,id⟩ e;rintro j t t' _ hj ⟨g1,g2,g3,g4,g5⟩ h2;obtain ⟨k1,k2,k3,k4,k5⟩:=Ajb h hi (by omega) g1 h2;refine ⟨k1,Aao (by rw [hs.1,g1.1]) g2 k2,by omega,?_,λhh=>k5 (g5 hh)⟩;rcases k4 with rfl | k4
 ·exact g4
 ·exact .inr ⟨k4.1,by omega⟩
theorem Bbj (h:Pair a b n m) {i:Nat} (hi:i<a.Ops.length) {s:Bool×List Int} (hs:okF n m s.2) {f:List Int} (hf:Homs a b f n m) (hn:¬faulty a b f n m) (he:ext s.2 f) :
  ∃s',opZ a b n m i s=some s'/\okF n m s'.2/\ext s'.2 f:=by
 refine Avz (step:=U8 a b n m i) (λt=>okF n m t.2/\ext t.2 f) _ 0 s ?_ ⟨hs,he⟩;rintro j t _ hj ⟨g1,g2⟩;obtain ⟨t',h1,h2⟩:=A5p h hi (show j<_ by omega) g1 hf hn g2;exact ⟨t',h1,(Ajb h hi (by omega) g1 h1).1,h2⟩
theorem A5x (h:Pair a b n m) {i:Nat} (hi:i<a.Ops.length) {g:List Int} (hs:okF n m g) (e:opZ a b n m i (false,g)=some (false,g)) : ∀k,k<(nth a.Ops i).Table.length->U8 a b n m i k (false,g)=some (false,g):=by have:=Asj (step:=U8 a b n m i) (λt=>okF n m t.2) (λt=>t.1=true) _ 0 (false,g) (false,g) (by rintro j t t' _ hj g1 h2;obtain ⟨k1,k2,k3,k4,k5⟩:=Ajb h hi (by omega) g1 h2;exact ⟨k1,k4.imp id (·.1),k5⟩) hs e (by simp);exact λk hk=>this.2 k (Nat.zero_le _) (by omega)
theorem Aux (h:Pair a b n m) {g:List Int} {s':Bool×List Int} (hs:okF n m g) (e:Alj a b n m g=some s') :
  okF n m s'.2/\ext g s'.2/\Cm s'.2<=Cm g/\(s'=(false,g)\/(s'.1=true/\Cm s'.2<Cm g)):=by
 refine Avc (step:=opZ a b n m) (λt=>okF n m t.2/\ext g t.2/\Cm t.2<=Cm g/\(t=(false,g)\/(t.1=true/\Cm t.2<Cm g))) _ 0 (false,g) s' ?_ ⟨hs,Adi _,Nat.le_refl _,.inl rfl⟩ e;rintro j t t' _ hj ⟨g1,g2,g3,g4⟩ h2;obtain ⟨k1,k2,k3,k4,k5⟩:=A26 h (by omega) g1 h2;refine ⟨k1,Aao (by rw [hs.1,g1.1]) g2 k2,by omega,?_⟩;rcases k4 with rfl | k4
 ·exact g4
 ·exact .inr ⟨k4.1,by omega⟩
theorem A14 (h:Pair a b n m) {g:List Int} (hs:okF n m g) {f:List Int} (hf:Homs a b f n m) (hn:¬faulty a b f n m) (he:ext g f) :
  ∃s',Alj a b n m g=some s'/\okF n m s'.2/\ext s'.2 f:=by
 refine Avz (step:=opZ a b n m) (λt=>okF n m t.2/\ext t.2 f) _ 0 (false,g) ?_ ⟨hs,he⟩;rintro j t _ hj ⟨g1,g2⟩;exact Bbj h (by omega) g1 hf hn g2
theorem Awd (h:Pair a b n m) {g:List Int} {s':Bool×List Int} (hs:okF n m g) (e:Alj a b n m g=some s') (hc:¬s'.1=true) :
  s'=(false,g) /\ ∀i,i<a.Ops.length -> ∀k,k<(nth a.Ops i).Table.length->U8 a b n m i k (false,g)=some (false,g):=by
 have:=Asj (step:=opZ a b n m) (λt=>okF n m t.2) (λt=>t.1=true) _ 0 (false,g) s' (by rintro j t t' _ hj g1 h2;obtain ⟨k1,k2,k3,k4,k5⟩:=A26 h (by omega) g1 h2;exact ⟨k1,k4.imp id (·.1),k5⟩) hs e hc;obtain ⟨rfl,h2⟩:=this;exact ⟨rfl,λi hi=>A5x h hi hs (h2 i (Nat.zero_le _) (by omega))⟩
theorem A6l (h:Pair a b n m) {g:List Int} (hs:okF n m g) (h0:Cm g=0) (hc : ∀i,i<a.Ops.length -> ∀k,k<(nth a.Ops i).Table.length->U8 a b n m i k (false,g)=some (false,g)):Kp a b g:=by
 obtain ⟨hn0,_,_,_⟩:=h.pos;have hpos : ∀x∈g,0<=x:=by intro x hx;have:=List.countP_eq_zero.1 h0 x hx;simpa using this
 have hsz:Bc g m:=λx hx=>⟨hpos x hx,(hs.2 x hx).2⟩
 have ha:a.Size.toNat=n:=by have:=h.sa;omega
 have hb:b.Size.toNat=m:=by have:=h.sb;omega
 refine ⟨h.al,⟨by rw [hs.1,h.sa],by rw [h.sb];exact hsz⟩,?_⟩;rw [ha,hb];rintro ⟨i,hi,k,hk,hf⟩;have e:=hc i hi k hk;obtain ⟨_,r,hr,e1,l1,l2,t1,t2,_⟩:=h.op hi;have hv:=t1 _ (Aj hk);have hl:=hs.1;unfold U8 at e;split at e
 ·rename_i ho;obtain ⟨x,hx,h1⟩:=List.mem_map.1 ho;have h2:=Ii hn0 _ k x hx;have h3:=hpos _ (Aj (show x.toNat<g.length by omega));have h1':nth g x.toNat = -1:=h1;omega
 ·rw [ip0 (hpos _ (Aj (by omega)))] at e;split at e
  ·rename_i e2;refine hf ?_;rw [<-Hs];exact e2
  ·cases e
theorem A7i (h:Pair a b n m) : ∀k g g',Cm g<k->okF n m g->Aav a b n m k g=some g'->okF n m g'/\ext g g'/\Cm g'<=Cm g/\(Cm g'=0->Kp a b g'):=by
 intro k
 induction k with
 | zero=>intro g g' hk;omega
 | succ k ih=>
   intro g g' hk hg e;simp only [Aav] at e;split at e
   ·cases e
   ·rename_i c g1 e1;obtain ⟨k1,k2,k3,k4⟩:=Aux h hg e1;split at e
    ·rename_i hc;rcases k4 with k4 | k4
     ·cases k4;cases hc
     ·obtain ⟨i1,i2,i3,i4⟩:=ih g1 g' (by have:=k4.2;simp only at this;omega) k1 e;exact ⟨i1,Aao (by rw [hg.1,k1.1]) k2 i2,by simp only at k3;omega,i4⟩
    ·rename_i hc;cases e;obtain ⟨e2,h2⟩:=Awd h hg e1 hc;cases e2;exact ⟨k1,k2,k3,λh0=>A6l h hg h0 h2⟩
theorem A18 (h:Pair a b n m) {f:List Int} (hf:Homs a b f n m) (hn:¬faulty a b f n m) : ∀k g,okF n m g->ext g f -> ∃g',Aav a b n m k g=some g'/\ext g' f:=by
 intro k
 induction k with
 | zero=>intro g _ he;exact ⟨g,rfl,he⟩
 | succ k ih=>
   intro g hg he;obtain ⟨⟨c,g1⟩,e1,h1,h2⟩:=A14 h hg hf hn he;simp only [Aav,e1];split
   ·exact ih g1 h1 h2
   ·exact ⟨g1,rfl,h2⟩
theorem Ak8 (h:Pair a b n m) {g g':List Int} (hg:okF n m g) (e:Aps a b n m g=some g'):okF n m g'/\ext g g'/\Cm g'<=Cm g/\(Cm g'=0->Kp a b g'):=A7i h _ g g' (Nat.lt_succ_self _) hg e
theorem A2r (h:Pair a b n m) {f g:List Int} (hg:okF n m g) (hf:Kp a b f) (he:ext g f) : ∃g',Aps a b n m g=some g'/\ext g' f:=by
 have ha:a.Size.toNat=n:=by have:=h.sa;omega
 have hb:b.Size.toNat=m:=by have:=h.sb;omega
 have H:=Apd h.al hf.2.1;have hF:=hf.2.2;rw [ha,hb] at H hF;exact A18 h H hF _ g hg he
theorem A0v (hn:0<n) {g:List Int} (hg:okF n m g) : ∀(r k:Nat),r<=3->k<=1048576->Ak (Di n g) ((k:Int),(r:Int))=some (if (-1:Int)∈O8 n g r k then .inl () else .inr ()):=by
 intro r
 induction r with
 | zero=> intro k _ _;refine Cv ?_;unfold Di;dsimp only;rw [in0 (by omega),in0 (by simp [O8,B0])]
 | succ r ih=>
   intro k hr hk;have hkn:=Nat.mod_lt k hn;have hd:k/n<=k:=Nat.div_le_self k n;have hl:=hg.1;have hv:=hg.2 _ (Aj (show k%n<g.length by omega));have c1:(k:Int).tdiv (n:Int)=((k/n:Nat):Int):=rfl;have c2:(k:Int).tmod (n:Int)=((k%n:Nat):Int):=rfl;rw [Auv];by_cases h0:nth g (k%n)<0
   ·have:nth g (k%n) = -1:=by omega
    rw [ip0 (by rw [List.mem_append,List.mem_singleton];exact .inr this.symm)];refine Cv ?_;unfold Di;dsimp only;rw [c2,tna0,ip0 (by omega),Ae (by omega),Ae (by omega),ip0 h0]
   ·have step:Di n g ((k:Int),((r+1:Nat):Int))=some (.inl (((k/n:Nat):Int),(r:Int))):=by
     unfold Di;dsimp only;rw [c1,c2,tna0];generalize k/n=kd at hd;generalize k%n=km at hkn h0;rw [ip0 (by omega),Ae (by omega),Ae (by omega),in0 h0,Ae (by omega),Ae (by omega),show ((r+1:Nat):Int)-1=(r:Int) by omega]
    rw [F6 step,ih (k/n) (by omega) (by omega)];by_cases hx:(-1:Int)∈O8 n g r (k/n)
    ·rw [ip0 hx,ip0 (by rw [List.mem_append];exact .inl hx)]
    ·rw [in0 hx,in0 (by rw [List.mem_append,List.mem_singleton];rintro (h1 | h1);exact hx h1;omega)]
theorem A2o (hn:0<n) {g:List Int} (hg:okF n m g) {r k:Nat} (hr:r<=3) (hk:k<=1048576):Jq k r n g=some (decide ((-1:Int)∉O8 n g r k)):=by
 unfold Jq;rw [A0v hn hg r k hr hk];by_cases hx:(-1:Int)∈O8 n g r k
 ·rw [ip0 hx,dfa0 (by simpa using hx)];rfl
 ·rw [in0 hx,dtr0 hx];rfl
theorem A65 (hn:0<n) (hm:m<=8) (ha:a.Size=n) (hb:b.Size=m) {f:List Int} (hf:f.length=n) {ar:Nat} (har:ar<=3) : ∀(r j s acc k:Nat),Bc (O8 n f r k) m->j+r=ar->s*8^r<=512->acc<=4096*j->k<=1048576 ->
  Ak (Co ar a b f) ((j:Int),(s:Int),(acc:Int),(k:Int))=some ((acc:Int)+(s:Int)*I9 n m f r k):=by
 intro r
 induction r with
 | zero=> intro j s acc k _ hj _ _ _;refine Cv ?_;unfold Co;dsimp only;rw [in0 (by omega)];simp [I9]
 | succ r ih=>
   intro j s acc k hfx hj hs hacc hk;rw [Auv] at hfx;have hkn:=Nat.mod_lt k hn;have hv:=hfx (nth f (k%n)) (by simp);obtain ⟨c,hc⟩:=Int.eq_ofNat_of_zero_le hv.1;have hd:k/n<=k:=Nat.div_le_self k n;have hp:0<8^r:=Nat.pow_pos (by omega);rw [Nat.pow_succ] at hs;have hs8:s*8<=512:=by have:s*8*1<=s*8*8^r:=Nat.mul_le_mul_left _ hp;rw [Nat.mul_assoc,Nat.mul_assoc,Nat.mul_comm 8 (8^r)] at this;omega
   have hsm:s*m<=s*8:=Nat.mul_le_mul_left _ hm;have hcs:c*s<=8*64:=Nat.mul_le_mul (by omega) (by omega);have c1:(k:Int).tdiv (n:Int)=((k/n:Nat):Int):=rfl;have c2:(k:Int).tmod (n:Int)=((k%n:Nat):Int):=rfl;have step:Co ar a b f ((j:Int),(s:Int),(acc:Int),(k:Int))=some (.inl (((j+1:Nat):Int),((s*m:Nat):Int),((acc+c*s:Nat):Int),((k/n:Nat):Int))):=by
    unfold Co;dsimp only;rw [ha,hb,c1,c2,tna0,hc];have e1:(c:Int)*(s:Int)=((c*s:Nat):Int):=by push_cast;rfl
    have e2:(s:Int)*(m:Int)=((s*m:Nat):Int):=by push_cast;rfl
    rw [e1,e2];generalize k/n=kd at hd;generalize k%n=km at hkn;generalize c*s=cs at hcs;generalize s*m=sm at hsm;rw [ip0 (by omega)];repeat rw [Ae (by omega)]
    rfl
   have hb2:s*m*8^r<=512:=by have h1:s*m*8^r<=s*8*8^r:=Nat.mul_le_mul_right _ hsm;rw [Nat.mul_assoc s 8,Nat.mul_comm 8 (8^r)] at h1;omega
   rw [F6 step,ih (j+1) (s*m) (acc+c*s) (k/n) (λz hz=>hfx z (List.mem_append_left _ hz)) (by omega) hb2 (by omega) (by omega)];simp only [I9,hc];congr 1;push_cast;exact A6k _ _ _ _ _
theorem A8o (hn:0<n) (hm:m<=8) (ha:a.Size=n) (hb:b.Size=m) {f:List Int} (hf:f.length=n) {ar:Nat} (har:ar<=3) {k:Nat} (hk:k<=1048576) (hfx:Bc (O8 n f ar k) m) :
  Hn k ar a b f=some (Pv m (O8 n f ar k)):=by
 unfold Hn;have h8:1*8^ar<=512:=by rw [Nat.one_mul];exact Yh (by omega) har
 have key:=A65 hn hm ha hb hf har ar 0 1 0 k hfx (by omega) h8 (by omega) hk;have key':Ak (Co ar a b f) (0,1,0,(k:Int))=some (I9 n m f ar k):=by simpa using key
 rw [key'];unfold O8;rw [Hs];rfl
theorem Avp (h:Pair a b n m) {i k:Nat} (hi:i<a.Ops.length) (hk:k<(nth a.Ops i).Table.length) {s:Bool×List Int} (hs:okF n m s.2) :
  Cs a b (i:Int) ((k:Int),s)=match U8 a b n m i k s with | some s'=>some (.inl (((k+1:Nat):Int),s')) | none=>some (.inr (.inl s.2)):=by
 obtain ⟨hn,hn8,hm,hm8⟩:=h.pos;obtain ⟨hib,r,hr,e1,l1,l2,t1,t2,l3⟩:=h.op hi;have hv:=t1 _ (Aj hk);have hgl:=hs.1;obtain ⟨c,g⟩:=s;dsimp only at hs hgl;have er:(nth a.Ops i).Arity.toNat=r:=by omega
 unfold Cs U8;dsimp only;rw [er,tna0,ip0 (by omega),Ae (by omega),e1,h.sa,A2o hn hs hr (by omega)];simp only [obs0];by_cases hop:(-1:Int)∈O8 n g r k
 ·rw [ip0 hop,dfa0 (by simpa using hop),in0 (by simp),Ae (by omega)];rfl
 ·have hin:=Awl hn hs r k hop;obtain ⟨p,hp1,hp2,_⟩:=Na hm8 (xs:=O8 n g r k) (by rw [Ai3];omega) hin;rw [Ai3] at hp2;rw [in0 hop,dtr0 hop,ip0 rfl,Ae (by omega),A8o hn hm8 h.sa h.sb hgl hr (by omega) hin,hp1];simp only [obs0];rw [tna0,Ae (by omega),tna0,Ae (by omega)];by_cases h0:0<=nth g (nth (nth a.Ops i).Table k).toNat
  ·rw [in0 (show ¬nth g (nth (nth a.Ops i).Table k).toNat<0 by omega),ip0 h0,Ae (by omega)];by_cases hne:nth g (nth (nth a.Ops i).Table k).toNat=nth (nth b.Ops i).Table p
   ·rw [in0 (by simpa using hne),ip0 hne,Ae (by omega)];rfl
   ·rw [ip0 hne,in0 hne]
  ·rw [ip0 (show nth g (nth (nth a.Ops i).Table k).toNat<0 by omega),in0 h0,Ae (by omega),Ae (by omega)];rfl
theorem A4n (h:Pair a b n m) {i:Nat} (hi:i<a.Ops.length) {s:Bool×List Int} (hs:okF n m s.2) :
  (∃s',opZ a b n m i s=some s'/\Ak (Cs a b (i:Int)) (0,s)=some (.inr s'))\/(opZ a b n m i s=none /\ ∃e,Ak (Cs a b (i:Int)) (0,s)=some (.inl e)):=by
 rcases A0i (body:=Cs a b (i:Int)) (step:=U8 a b n m i) (λt=>okF n m t.2) id (nth a.Ops i).Table.length (λk s s' hk hs e=>⟨(Ajb h hi hk hs e).1,by rw [Avp h hi hk hs,e]⟩)
  (λk s hk hs e=>⟨s.2,by rw [Avp h hi hk hs,e]⟩) (λs hs=>by unfold Cs;dsimp only;rw [tna0,in0 (by omega)];rfl) (nth a.Ops i).Table.length 0 s (by omega) hs with ⟨s',h1,_,h3⟩ | ⟨h1,e,h3⟩
 ·exact .inl ⟨s',h1,h3⟩
 ·exact .inr ⟨h1,e,h3⟩
theorem Azs (h:Pair a b n m) {g:List Int} (hs:okF n m g) :
  (∃s',Alj a b n m g=some s'/\Ak (Ct a b) (0,false,g)=some (.inr s'))\/(Alj a b n m g=none /\ ∃e,Ak (Ct a b) (0,false,g)=some (.inl e)):=by
 have h4:=h.al.1.2.2.1;rcases A0i (body:=Ct a b) (step:=opZ a b n m) (λt=>okF n m t.2) id a.Ops.length (λi s s' hi hs e=>⟨(A26 h hi hs e).1,by
   rcases A4n h hi hs with ⟨s2,e2,e3⟩ | ⟨e2,_⟩
   ·rw [e] at e2;cases e2;unfold Ct;obtain ⟨c,g⟩:=s;dsimp only;rw [ip0 (by omega),Ae (by omega),e3];simp only [obs0];rw [Ae (by omega)];rfl
   ·rw [e] at e2;cases e2⟩)
  (λi s hi hs e=>by
   rcases A4n h hi hs with ⟨s2,e2,e3⟩ | ⟨_,q,e3⟩
   ·rw [e] at e2;cases e2
   ·refine ⟨q,?_⟩;unfold Ct;obtain ⟨c,g⟩:=s;dsimp only;rw [ip0 (by omega),Ae (by omega),e3];rfl) (λs hs=>by
   unfold Ct;dsimp only;rw [in0 (by omega)];rfl) a.Ops.length 0 (false,g) (by omega) hs with ⟨s',h1,_,h3⟩ | ⟨h1,e,h3⟩
 ·exact .inl ⟨s',h1,h3⟩
 ·exact .inr ⟨h1,e,h3⟩
theorem Ay2 (h:Pair a b n m) : ∀k g,Cm g<k->okF n m g ->
  (∃g',Aav a b n m k g=some g'/\Ak (Cu a b) (true,g)=some (.inr g'))\/(Aav a b n m k g=none /\ ∃e,Ak (Cu a b) (true,g)=some (.inl e)):=by
 intro k
 induction k with
 | zero=>intro g hk;omega
 | succ k ih=>
   intro g hk hg;simp only [Aav];rcases Azs h hg with ⟨⟨c,g1⟩,e1,e2⟩ | ⟨e1,q,e2⟩
   ·rw [e1];have step:Cu a b (true,g)=some (.inl (c,g1)):=by
     unfold Cu;dsimp only;rw [ip0 rfl,e2];rfl
    rw [F6 step];obtain ⟨k1,k2,k3,k4⟩:=Aux h hg e1;dsimp only;by_cases hc:c=true
    ·subst hc;rcases k4 with k4 | k4
     ·cases k4
     ·rw [ip0 rfl];exact ih g1 (by have:=k4.2;simp only at this;omega) k1
    ·have hc':c=false:=by simpa using hc
     subst hc';rw [in0 (by simp)];refine .inl ⟨g1,rfl,Cv ?_⟩;unfold Cu;rfl
   ·rw [e1];refine .inr ⟨rfl,q,Cv ?_⟩;unfold Cu;dsimp only;rw [ip0 rfl,e2];rfl
theorem A21 (h:Pair a b n m) {g:List Int} (hg:okF n m g):(∃g',Aps a b n m g=some g'/\Hl a b g=some (true,g'))\/(Aps a b n m g=none /\ ∃e,Hl a b g=some (false,e)):=by
 unfold Hl;rcases Ay2 h (Cm g+1) g (Nat.lt_succ_self _) hg with ⟨g',e1,e2⟩ | ⟨e1,q,e2⟩
 ·exact .inl ⟨g',e1,by rw [e2];rfl⟩
 ·exact .inr ⟨e1,q,by rw [e2];rfl⟩
end
theorem Ay6 {xs:List Int} (h:xs.length<=LIM):Fh xs=some xs:=by unfold Fh;rw [Ae (by show 0+xs.length<=_;omega)];rfl
def Z7 (f:List Int):Prop := ∀i,i<f.length->0<=nth f i->nth f i∉f.take i
def Ek:List Int->Nat
 | []=>0
 | x::r=>if x<0 then 0 else Ek r+1
theorem Zs : ∀f:List Int,Ek f<=f.length
 | []=>Nat.le_refl _
 | x::r=>by have:=Zs r;simp only [Ek,List.length_cons];split<;>omega
theorem Aku : ∀(f:List Int) (j:Nat),j<Ek f->0<=nth f j
 | [],j,h=>by simp [Ek] at h
 | x::r,j,h=>by
   simp only [Ek] at h;split at h
   ·omega
   ·cases j with
    | zero=>simp only [nth,List.getD_cons_zero];omega
    | succ j=> have:=Aku r j (by omega);simpa [nth] using this
theorem Zx : ∀(f:List Int),Ek f<f.length->nth f (Ek f)<0
 | [],h=>by simp [Ek] at h
 | x::r,h=>by
   simp only [Ek] at h ⊢;split
   ·rename_i hx;simpa [nth] using hx
   ·rename_i hx;rw [in0 hx] at h;have:=Zx r (by simpa using h);simpa [nth] using this
theorem Arb {f:List Int}:Cm f=0 ↔ ∀x∈f,0<=x:=by
 unfold Cm;rw [List.countP_eq_zero];constructor
 ·intro h x hx;have:=h x hx;simpa using this
 ·intro h x hx;have:=h x hx;simpa using this
theorem Ago {f:List Int}:Ek f=f.length↔Cm f=0:=by
 rw [Arb];constructor
 ·intro h x hx;obtain ⟨i,hi,rfl⟩:=Cw.1 hx;exact Aku f i (by omega)
 ·intro h;rcases Nat.lt_or_ge (Ek f) f.length with h1 | h1
  ·have:=Zx f h1;have:=h _ (Aj h1);omega
  ·have:=Zs f;omega
theorem A3p {s:ShomSearch} {f:List Int} (hl:f.length<=1048576):Ak (B7 s f) 0=some (Ek f:Int):=by
 have h1:=Zs f;refine Bn (body:=B7 s f) (λi=>(i:Int)) (Ek f) _ (λi hi=> ?_) ?_
 ·have:=Aku f i hi;unfold B7;rw [ip0 (by omega),Ae (by omega),tna0,ip0 this,Ae (by omega)];rfl
 ·unfold B7;rcases Nat.lt_or_ge (Ek f) f.length with h2 | h2
  ·have:=Zx f h2;rw [ip0 (by omega),Ae (by omega),tna0,in0 (by omega)]
  ·rw [in0 (by omega)]
abbrev SS:=Nat×List (List Int)
def Hc (M:Nat) (s:SS):Prop:=M<=s.2.length\/5000<s.1
noncomputable def P7 (rec_:SS->List Int->SS) (cl:List Int->Option (List Int)) (M:Nat) (f:List Int) (q:Nat):Nat->Nat->SS->SS
 | 0,_,s=>s
 | c+1,y,s=>if Hc M s then s else
   if s.1+1>5000 then (s.1+1,s.2) else
   match cl (f.set q (y:Int)) with
   | some g=>P7 rec_ cl M f q c (y+1) (rec_ (s.1+1,s.2) g)
   | none=>P7 rec_ cl M f q c (y+1) (s.1+1,s.2)
noncomputable def Wp (cl:List Int->Option (List Int)) (acc:List Int->Prop) (m M:Nat):Nat->SS->List Int->SS
 | 0,s,_=>s
 | k+1,s,f=>if Ek f=f.length then (if acc f then (s.1,s.2++[f]) else s)
   else P7 (Wp cl acc m M k) cl M f (Ek f) m 0 s
theorem Aq0 {rec_:SS->List Int->SS} {cl:List Int->Option (List Int)} {M:Nat} {f:List Int} {q c y:Nat} {s:SS} (h:Hc M s):P7 rec_ cl M f q c y s=s:=by
 cases c with
 | zero=>rfl
 | succ c=>simp only [P7];rw [ip0 h]
section
variable {a b:SAlgebra} {n m:Nat}
noncomputable def C6 (a b:SAlgebra) (n m:Nat) (emb:Bool) (g:List Int):Option (List Int):=match Aps a b n m g with
 | some g'=>if emb=true/\¬Z7 g' then none else some g'
 | none=>none
theorem Uy (h:Pair a b n m) {emb:Bool} {g g':List Int} (hg:okF n m g) (e:C6 a b n m emb g=some g'):okF n m g'/\ext g g'/\Cm g'<=Cm g/\(Cm g'=0->Kp a b g')/\(emb=true->Z7 g'):=by
 unfold C6 at e;split at e
 ·rename_i g1 e1;split at e
  ·cases e
  ·rename_i h1;cases e;obtain ⟨k1,k2,k3,k4⟩:=Ak8 h hg e1;exact ⟨k1,k2,k3,k4,λhe=>Classical.byContradiction λhc=>h1 ⟨he,hc⟩⟩
 ·cases e
theorem A60 {g f:List Int} (hl:g.length=f.length) (he:ext g f) (hf:Z7 f):Z7 g:=by
 intro i hi h0 hm;obtain ⟨j,hj,e⟩:=Cw.1 hm;have hji:j<i:=by simp at hj;omega
 have ej:nth (g.take i) j=nth g j:=by rw [Ce hj,Ce (by omega),List.getElem_take]
 rw [ej] at e;refine hf i (by omega) (by rw [he i hi h0];exact h0) (Cw.2 ⟨j,by simp;omega,?_⟩);have ef:nth (f.take i) j=nth f j:=by rw [Ce (by simp;omega),Ce (by omega),List.getElem_take]
 rw [ef,he i hi h0,<-e,he j (by omega) (by omega)]
theorem Aqh (h:Pair a b n m) {emb:Bool} {f g:List Int} (hg:okF n m g) (hf:Kp a b f) (hi:emb=true->Z7 f) (he:ext g f) : ∃g',C6 a b n m emb g=some g'/\ext g' f:=by obtain ⟨g',e1,h1⟩:=A2r h hg hf he;obtain ⟨k1,_⟩:=Ak8 h hg e1;refine ⟨g',?_,h1⟩;unfold C6;rw [e1];dsimp only;rw [in0];rintro ⟨he2,hc⟩;have hl:(f.length:Int)=a.Size:=hf.2.1.1;have:=h.sa;exact hc (A60 (by have:=k1.1;omega) h1 (hi he2))
def Ac3 (m:Nat) (onto:Bool) (f:List Int):Prop:=onto=true -> ∀x,x<m->(x:Int)∈f
end
section
variable {a b:SAlgebra} {n m:Nat}
theorem A4b (h:Pair a b n m) {s:ShomSearch} (sa:s.a=a) (sb:s.b=b) {g:List Int} (hg:okF n m g) :
  (∃g',C6 a b n m s.embed g=some g'/\Bq s g=some (true,g'))\/(C6 a b n m s.embed g=none /\ ∃e,Bq s g=some (false,e)):=by
 obtain ⟨hn,hn8,hm,hm8⟩:=h.pos;have hL:=At;unfold Bq C6;rw [sa,sb];rcases A21 h hg with ⟨f,e1,e2⟩ | ⟨e1,x,e2⟩
 ·obtain ⟨k1,_⟩:=Ak8 h hg e1;have hfl:=k1.1;rw [e1,e2];simp only [obs0];rw [ip0 trivial];by_cases hE:s.embed=true
  ·rw [ip0 hE,Ae (by rw [h.sb];omega),h.sb,tna0];have this:=Jx (body:=B5 f) (λi=>((i:Int),Mg m λz=>decide ((z:Int)∈f.take i))) f.length (λi=>0<=nth f i/\nth f i∈f.take i) () () (λi hi hb=>by
    have hv:=k1.2 _ (Aj hi);have hlen:=Jw m λz=>decide ((z:Int)∈f.take i)
    unfold B5;dsimp only;rw [ip0 (by omega),Ae (by omega),tna0];by_cases h0:nth f i>=0
    ·have hc:nth f i=(((nth f i).toNat:Nat):Int):=by omega
     rw [ip0 h0,Ae (by omega),Ko (by omega),in0 (by rw [<-hc];simpa using λhc=>hb ⟨h0,hc⟩),ip0 h0,Ae (by omega),Ae (by omega),Ar9 (by omega)];refine congrArg (λx=>some (Sum.inl (_,x))) (Nx λz _=> ?_);rw [C9 hi];by_cases hz:z=(nth f i).toNat
     ·rw [ip0 hz];refine (dtr0 ?_).symm;rw [List.mem_append,List.mem_singleton];right;omega
     ·rw [in0 hz,decide_eq_decide,List.mem_append,List.mem_singleton];exact ⟨.inl,λh=>h.resolve_right (by omega)⟩
    ·rw [in0 h0,in0 h0,Ae (by omega)];refine congrArg (λx=>some (Sum.inl (_,x))) (Nx λz _=> ?_);rw [C9 hi,decide_eq_decide,List.mem_append,List.mem_singleton];exact ⟨.inl,λh=>h.resolve_right (by omega)⟩) (λi hi hb=>by
    have hv:=k1.2 _ (Aj hi);have hlen:=Jw m λz=>decide ((z:Int)∈f.take i)
    have hc:nth f i=(((nth f i).toNat:Nat):Int):=by have:=hb.1;omega
    unfold B5;dsimp only;rw [ip0 (by omega),Ae (by omega),tna0,ip0 hb.1,Ae (by have:=hb.1;omega),Ko (by omega),ip0 (by rw [<-hc];simpa using hb.2)]) (by
    unfold B5;dsimp only;rw [in0 (by omega)]) 0 (by omega)
   have e0:(Mg m λz=>decide ((z:Int)∈f.take 0))=List.replicate m false:=by rw [Afx];exact Nx λz _=>by simp
   simp only [e0] at this;have this':Ak (B5 f) (0,List.replicate m false)=_:=this;rw [this'];simp only [obs0];by_cases hI:Z7 f
   ·left;refine ⟨f,by rw [in0 (λhc=>hc.2 hI)],?_⟩;rw [in0];rintro ⟨i,_,hi,h0,hm⟩;exact hI i hi h0 hm
   ·right;refine ⟨by rw [ip0 ⟨hE,hI⟩],f,?_⟩;rw [ip0];refine Classical.byContradiction λhc=>hI λi hi h0 hm=>hc ⟨i,by omega,hi,h0,hm⟩
  ·rw [in0 hE];exact .inl ⟨f,by rw [in0 (λhc=>hE hc.1)],rfl⟩
 ·rw [e1,e2];simp only [obs0];rw [in0 (by simp)];exact .inr ⟨trivial,x,rfl⟩
abbrev FD:=Ae5
def Oa (a b:SAlgebra) (emb:Bool) (rp:List (List Int)->FD) (s:SS):ShomSearch:={ a:=a,b:=b,embed:=emb,tries:=(s.1:Int),found:=rp s.2 }
def Baq (n m M:Nat) (acc:List Int->Prop) (rp:List (List Int)->FD):Prop := ∀f fs,okF n m f->Cm f=0->fs.length<M ->
 Gx f (rp fs)=some (decide (¬M<=(if acc f then fs++[f] else fs).length),rp (if acc f then fs++[f] else fs))
noncomputable def Bb6 (a b:SAlgebra) (emb:Bool) (rp:List (List Int)->FD) (M:Nat) (x:SS):Option (Bool×ShomSearch):=some (decide (¬Hc M x),Oa a b emb rp x)
theorem A7a {M:Nat} {x:SS} (h:Hc M x):decide (¬Hc M x)=false:=dfa0 (λhc=>hc h)
theorem A2t {M:Nat} {x:SS} (h:¬Hc M x):decide (¬Hc M x)=true:=dtr0 h
noncomputable def Bdc (a b:SAlgebra) (emb:Bool) (rp:List (List Int)->FD) (M:Nat) (x:SS):ShomSearch ⊕ ShomSearch:=if Hc M x then .inl (Oa a b emb rp x) else .inr (Oa a b emb rp x)
theorem Ard {emb:Bool} {rp:List (List Int)->FD} {M:Nat} {x:SS} (h:Hc M x):Bdc a b emb rp M x = .inl (Oa a b emb rp x):=ip0 h
theorem A4k {emb:Bool} {rp:List (List Int)->FD} {M:Nat} {x:SS} (h:¬Hc M x):Bdc a b emb rp M x = .inr (Oa a b emb rp x):=in0 h
theorem A35 (h:Pair a b n m) (emb:Bool) {M:Nat} {acc:List Int->Prop} {rp:List (List Int)->FD} (hfc:Baq n m M acc rp) : ∀(k:Nat) (s:SS) (f:List Int),Cm f<k->okF n m f->¬Hc M s ->
  A6 k (Oa a b emb rp s) f=Bb6 a b emb rp M (Wp (C6 a b n m emb) acc m M k s f):=by
 obtain ⟨hn,hn8,hm,hm8⟩:=h.pos;have hL:=At;intro k
 induction k with
 | zero=>intro s f hk;omega
 | succ k ih=>
   intro s f hk hf hs;show Bw (A6 k) _ f=_;unfold Bw;have hfl:=hf.1;have hs2:s.2.length<M/\s.1<=5000:=by unfold Hc at hs;omega
   rw [A3p (by omega)];simp only [obs0,Wp];by_cases hq:Ek f=f.length
   ·rw [ip0 (by omega),ip0 hq];have e1:=hfc f s.2 hf (Ago.1 hq) hs2.1;show (Gx f (rp s.2)).bind _=_;rw [e1];simp only [obs0];by_cases ha:acc f
    ·rw [ip0 ha,ip0 ha];refine congrArg some (Prod.ext ?_ rfl);rw [decide_eq_decide];unfold Hc;simp only;omega
    ·rw [in0 ha,in0 ha];refine congrArg some (Prod.ext ?_ rfl);rw [decide_eq_decide];unfold Hc;omega
   ·rw [in0 (by omega),in0 hq];have hq4:Ek f<f.length:=by have:=Zs f;omega
    have hneg:=Zx f hq4;have key : ∀c y (s:SS),y+c=m->¬Hc M s->Ak (Be (A6 k) f (Ek f:Int)) ((y:Int),Oa a b emb rp s) =
      some (Bdc a b emb rp M (P7 (Wp (C6 a b n m emb) acc m M k) (C6 a b n m emb) M f (Ek f) c y s)):=by
     intro c
     induction c with
     | zero=> intro y s hy hd;refine Cv ?_;unfold Be;dsimp only;rw [show (Oa a b emb rp s).b.Size=(m:Int) from h.sb,in0 (by omega)];simp only [P7];rw [A4k hd]
     | succ c ihc=>
       intro y s hy hd;have hd2:s.2.length<M/\s.1<=5000:=by unfold Hc at hd;omega
       simp only [P7];rw [in0 hd];by_cases h5:s.1+1>5000
       ·rw [ip0 h5];refine Cv ?_;unfold Be;dsimp only;rw [show (Oa a b emb rp s).b.Size=(m:Int) from h.sb,ip0 (by omega),Ae (by show InI ((s.1:Int)+1);unfold InI;omega),ip0 (show (Oa a b emb rp s).tries+1>5000 by show (s.1:Int)+1>5000;omega),Ard (by unfold Hc;simp only;omega)];rfl
       ·rw [in0 h5];have hof:okF n m (f.set (Ek f) (y:Int)):=hf.set (by omega);have hop:=Aep hq4 hneg (y:=(y:Int)) (by omega);have hI:InI ((y:Int)+1):=by unfold InI;omega
        have step : ∀X,(Be (A6 k) f (Ek f:Int)) ((y:Int),Oa a b emb rp s)=X->X=(let s1:=Oa a b emb rp (s.1+1,s.2);(Bq s1 (f.set (Ek f) (y:Int))).bind λ(r14,u15)=>if r14=true then (A6 k s1 u15).bind λ(r17,u18)=>if r17=true then ask (InI ((y:Int)+1))<|some (.inl ((y:Int)+1,u18)) else some (.inr (.inl u18))
           else ask (InI ((y:Int)+1))<|some (.inl ((y:Int)+1,s1))):=by
         rintro X rfl;unfold Be;dsimp only;rw [show (Oa a b emb rp s).b.Size=(m:Int) from h.sb,ip0 (by omega),Ae (by show InI ((s.1:Int)+1);unfold InI;omega),in0 (show ¬(Oa a b emb rp s).tries+1>5000 by show ¬(s.1:Int)+1>5000;omega),Ay6 (by omega)];simp only [obs0];rw [Ae (by omega),tna0];rfl
        rcases A4b h (s:=Oa a b emb rp (s.1+1,s.2)) rfl rfl hof with ⟨g,e1,e2⟩ | ⟨e1,x,e2⟩
        ·have e1':C6 a b n m emb (f.set (Ek f) (y:Int))=some g:=e1;obtain ⟨g1,g2,g3,g4,g5⟩:=Uy h hof e1';have go:=ih (s.1+1,s.2) g (by omega) g1 (by unfold Hc;simp only;omega);have hst:=step _ rfl;dsimp only at hst;rw [e2] at hst;simp only [obs0] at hst;rw [ip0 trivial,go] at hst;simp only [Bb6,obs0] at hst;rw [e1'];dsimp only;by_cases hd3:Hc M (Wp (C6 a b n m emb) acc m M k (s.1+1,s.2) g)
         ·rw [dfa0 (by simpa using hd3),in0 (by simp)] at hst;rw [Aq0 hd3,Ard hd3];exact Cv hst
         ·rw [dtr0 hd3,ip0 rfl,Ae hI] at hst;rw [F6 hst];exact ihc (y+1) _ (by omega) hd3
        ·have e1':C6 a b n m emb (f.set (Ek f) (y:Int))=none:=e1;have hst:=step _ rfl;dsimp only at hst;rw [e2] at hst;simp only [obs0] at hst;rw [in0 (by simp),Ae hI] at hst;rw [e1'];dsimp only;rw [F6 hst];exact ihc (y+1) _ (by omega) (by unfold Hc;simp only;omega)
    have e2:=key m 0 s (by omega) hs;have e2':Ak (Be (A6 k) f (Ek f:Int)) (0,Oa a b emb rp s)=_:=e2;rw [e2'];simp only [obs0];by_cases hd:Hc M (P7 (Wp (C6 a b n m emb) acc m M k) (C6 a b n m emb) M f (Ek f) m 0 s)
    ·rw [Ard hd];dsimp only;unfold Bb6;rw [A7a hd]
    ·rw [A4k hd];dsimp only;unfold Bb6;rw [A2t hd]
end
theorem A1e {s1 s2:ShomSearch->List Int->Option (Bool×ShomSearch)} (h : ∀s f,LeO (s1 s f) (s2 s f)) (s:ShomSearch) (f:List Int):LeO (Bw s1 s f) (Bw s2 s f):=by
 unfold Bw;refine LeO.bind (LeO.refl _) λq=>LeO.ite (LeO.refl _) (LeO.bind (LeO.loop (λs=> ?_) _) λ_=>LeO.refl _)
 obtain ⟨x,y⟩:=s;unfold Be;dsimp only;exact LeO.ite (LeO.ask (LeO.ite (LeO.refl _) (LeO.bind (LeO.refl _) λr=>LeO.ask (LeO.bind (LeO.refl _) λr2=>LeO.ite (LeO.bind (h _ _) λ_=>LeO.refl _) (LeO.refl _))))) (LeO.refl _)
theorem A5y (s:ShomSearch) (f:List Int):upO λn=>A6 n s f:=Bd7 (F:=A6) (λ_ _=>rfl) (λ_ h a b=>A1e h a b) s f
section
variable {a b:SAlgebra} {n m:Nat}
noncomputable def Mr (a b:SAlgebra) (n m:Nat) (emb:Bool) (acc:List Int->Prop) (M:Nat):SS:=match C6 a b n m emb (List.replicate n (-1)) with
 | some g=>Wp (C6 a b n m emb) acc m M (Cm g+1) (0,[]) g
 | none=>(0,[])
theorem Ags {emb:Bool} {acc:List Int->Prop} {M:Nat} {g:List Int} (e:C6 a b n m emb (List.replicate n (-1))=some g):Mr a b n m emb acc M=Wp (C6 a b n m emb) acc m M (Cm g+1) (0,[]) g:=by unfold Mr;rw [e]
theorem Aqn {emb:Bool} {acc:List Int->Prop} {M:Nat} (e:C6 a b n m emb (List.replicate n (-1))=none):Mr a b n m emb acc M=(0,[]):=by unfold Mr;rw [e]
theorem Aj7 (n m:Nat):okF n m (List.replicate n (-1)):=⟨List.length_replicate,λx hx=>by rw [(List.mem_replicate.1 hx).2];omega⟩
theorem Amd {body:Int×List Int->Option ((Int×List Int) ⊕ List Int)} (_hn:n<=8) (hb : ∀(i:Nat) g,i<n->g.length=n->body ((i:Int),g)=some (.inl (((i+1:Nat):Int),g.set i (-1)))) (he : ∀g,body ((n:Int),g)=some (.inr g)):Ak body (0,List.replicate n 0)=some (List.replicate n (-1)):=by
 have:=Bn (body:=body) (λi=>((i:Int),List.replicate i (-1)++List.replicate (n-i) 0)) n (List.replicate n (-1)) (λi hi=>by
  rw [hb i _ hi (by simp;omega),Api _ _ _ hi (by simp),<-List.replicate_succ']) (by
  rw [he];simp)
 simpa using this
noncomputable def Bcc (rp:List (List Int)->FD) (s:SS):Option (Bool×FD):=some (decide (s.1<=5000),rp s.2)
theorem A7c (h:Pair a b n m) (emb:Bool) {M:Nat} (hM:0<M) {acc:List Int->Prop} {rp:List (List Int)->FD} (hfc:Baq n m M acc rp) :
  F2 a b emb (rp [])=Bcc rp (Mr a b n m emb acc M):=by
 obtain ⟨hn,hn8,hm,hm8⟩:=h.pos;have hL:=At;have hok:=Aj7 n m;have hd0:¬Hc M ((0,[]):SS):=by unfold Hc;simp only [List.length_nil];omega
 have main:((Bq (Oa a b emb rp (0,[])) (List.replicate n (-1))).bind λ(r6,u7)=>if r6=true then (Azw λk=>A6 k (Oa a b emb rp (0,[])) u7).bind λ(_,u10)=>some (decide (u10.tries<=5000),u10.found) else some (decide ((0:Int)<=5000),rp []))=Bcc rp (Mr a b n m emb acc M):=by
  rcases A4b h (s:=Oa a b emb rp (0,[])) rfl rfl hok with ⟨g,e1,e2⟩ | ⟨e1,x,e2⟩
  ·have e1':C6 a b n m emb (List.replicate n (-1))=some g:=e1;rw [e2,Ags e1'];simp only [obs0];rw [ip0 trivial,Ba8 (A5y _ _) (A35 h emb hfc (Cm g+1) (0,[]) g (Nat.lt_succ_self _) (Uy h hok e1').1 hd0)];simp only [obs0];refine congrArg some (Prod.ext ?_ rfl);rw [decide_eq_decide];show ((Wp (C6 a b n m emb) acc m M (Cm g+1) (0,[]) g).1:Int)<=5000↔_;omega
  ·have e1':C6 a b n m emb (List.replicate n (-1))=none:=e1;rw [e2,Aqn e1'];simp only [obs0];rw [in0 (by simp)];rfl
 have eS : ∀x,rp []=x->Oa a b emb rp (0,[])={ a:=a,b:=b,embed:=emb,tries:=0,found:=x }:=by rintro x rfl;rfl
 unfold F2;cases hr:rp [] with
 | inl fs=>
   dsimp only;rw [h.sa,Ae (by omega),tna0,Amd hn8 (λi g hi hg=>by
    unfold Fl;dsimp only;rw [h.sa,tna0,ip0 (by omega),Ae (by omega),Ae (by omega),tna0];rfl) (λg=>by
    unfold Fl;dsimp only;rw [h.sa,tna0,in0 (by omega)])]
   simp only [obs0];rw [eS _ hr,hr] at main;exact main
 | inr q=>
   dsimp only;rw [h.sa,Ae (by omega),tna0,Amd hn8 (λi g hi hg=>by
    unfold Es;dsimp only;rw [h.sa,tna0,ip0 (by omega),Ae (by omega),Ae (by omega),tna0];rfl) (λg=>by
    unfold Es;dsimp only;rw [h.sa,tna0,in0 (by omega)])]
   simp only [obs0];rw [eS _ hr,hr] at main;exact main
end
theorem Bao {f:List Int} {q:Nat} (hq:nth f q<0) (y:Int):ext f (f.set q y):=λx hx h0=>by rw [Jd _ _ _ _ hx,in0];intro e;subst e;omega
section
variable {a b:SAlgebra} {n m:Nat}
structure FoundZ (a b:SAlgebra) (n m:Nat) (emb:Bool) (acc:List Int->Prop) (g:List Int):Prop where
 ok:okF n m g
 all:Cm g=0
 hom:Kp a b g
 acc:acc g
 into:emb=true->Z7 g
theorem A09 (h:Pair a b n m) {emb:Bool} {acc:List Int->Prop} {M:Nat} {f:List Int} {q:Nat} (hf:okF n m f) (hq:q<f.length) (hneg:nth f q<0) {rec_:SS->List Int->SS}
  (hr : ∀s g,okF n m g->Cm g<Cm f->(Cm g=0->Kp a b g)->(emb=true->Z7 g) -> ∃l,(rec_ s g).2=s.2++l/\l.Nodup /\ ∀z∈l,FoundZ a b n m emb acc z/\ext g z) :
  ∀c y s,y+c<=m -> ∃l,(P7 rec_ (C6 a b n m emb) M f q c y s).2=s.2++l/\l.Nodup /\ ∀z∈l,FoundZ a b n m emb acc z/\ext f z/\(y:Int)<=nth z q:=by
 intro c
 induction c with
 | zero=>intro y s _;exact ⟨[],by simp [P7],List.nodup_nil,λz hz=>by cases hz⟩
 | succ c ih=>
   intro y s hy;simp only [P7];split
   ·exact ⟨[],by simp,List.nodup_nil,λz hz=>by cases hz⟩
   ·split
    ·exact ⟨[],by simp,List.nodup_nil,λz hz=>by cases hz⟩
    ·have hof:okF n m (f.set q (y:Int)):=hf.set (by omega);have hop:=Aep hq hneg (y:=(y:Int)) (by omega);split
     ·rename_i g e;obtain ⟨g1,g2,g3,g4,g5⟩:=Uy h hof e;obtain ⟨l1,e1,n1,p1⟩:=hr (s.1+1,s.2) g g1 (by omega) g4 g5;obtain ⟨l2,e2,n2,p2⟩:=ih (y+1) (rec_ (s.1+1,s.2) g) (by omega);have hat : ∀z∈l1,nth z q=(y:Int):=by
       intro z hz;have h1:=(p1 z hz).2;have h2:nth (f.set q (y:Int)) q=(y:Int):=by rw [Jd _ _ _ _ hq,ip0 rfl]
       have h3:=g2 q (by simpa using hq) (by omega);rw [h1 q (by have:=g1.1;have:=hf.1;omega) (by omega),h3,h2]
      refine ⟨l1++l2,by rw [e2,e1,List.append_assoc],List.nodup_append.2 ⟨n1,n2,?_⟩,λz hz=> ?_⟩
      ·rintro z hz w hw rfl;have h1:=hat z hz;have h2:=(p2 z hw).2.2;omega
      ·rcases List.mem_append.1 hz with hz | hz
       ·refine ⟨(p1 z hz).1,?_,by rw [hat z hz];exact Int.le_refl _⟩;have hl:(f.set q (y:Int)).length=g.length:=by rw [hof.1,g1.1]
        exact Aao (by simp) (Bao hneg _) (Aao hl g2 (p1 z hz).2)
       ·obtain ⟨k1,k2,k3⟩:=p2 z hz;exact ⟨k1,k2,by omega⟩
     ·obtain ⟨l2,e2,n2,p2⟩:=ih (y+1) (s.1+1,s.2) (by omega);refine ⟨l2,e2,n2,λz hz=> ?_⟩;obtain ⟨k1,k2,k3⟩:=p2 z hz;exact ⟨k1,k2,by omega⟩
theorem A2n (h:Pair a b n m) (emb:Bool) (acc:List Int->Prop) (M:Nat) : ∀k s f,Cm f<k->okF n m f->(Cm f=0->Kp a b f)->(emb=true->Z7 f) ->
  ∃l,(Wp (C6 a b n m emb) acc m M k s f).2=s.2++l/\l.Nodup /\ ∀z∈l,FoundZ a b n m emb acc z/\ext f z:=by
 intro k
 induction k with
 | zero=>intro s f hk;omega
 | succ k ih=>
   intro s f hk hf h0 hi;simp only [Wp];by_cases hq:Ek f=f.length
   ·rw [ip0 hq];have hop:=Ago.1 hq;by_cases ha:acc f
    ·rw [ip0 ha];refine ⟨[f],rfl,by simp,λz hz=> ?_⟩;rw [List.mem_singleton.1 hz];exact ⟨⟨hf,hop,h0 hop,ha,hi⟩,Adi f⟩
    ·rw [in0 ha];exact ⟨[],by simp,List.nodup_nil,λz hz=>by cases hz⟩
   ·rw [in0 hq];have hq4:Ek f<f.length:=by have:=Zs f;omega
    obtain ⟨l,e,hn,p⟩:=A09 h (M:=M) hf hq4 (Zx f hq4) (rec_:=Wp (C6 a b n m emb) acc m M k) (λs g hg hl hg0 hgi=>ih s g (by omega) hg hg0 hgi) m 0 s (by omega);exact ⟨l,e,hn,λz hz=>⟨(p z hz).1,(p z hz).2.1⟩⟩
theorem Avq {rec_:SS->List Int->SS} (hr : ∀s g,∃l,(rec_ s g).2=s.2++l) {cl:List Int->Option (List Int)} {M:Nat} {f:List Int} {q:Nat} : ∀c y s,∃l,(P7 rec_ cl M f q c y s).2=s.2++l:=by
 intro c
 induction c with
 | zero=>intro y s;exact ⟨[],by simp [P7]⟩
 | succ c ih=>
   intro y s;simp only [P7];split
   ·exact ⟨[],by simp⟩
   ·split
    ·exact ⟨[],by simp⟩
    ·split
     ·rename_i g _;obtain ⟨l1,e1⟩:=hr (s.1+1,s.2) g;obtain ⟨l2,e2⟩:=ih (y+1) (rec_ (s.1+1,s.2) g);exact ⟨l1++l2,by rw [e2,e1,List.append_assoc]⟩
     ·obtain ⟨l2,e2⟩:=ih (y+1) (s.1+1,s.2);exact ⟨l2,e2⟩
theorem A9f {cl:List Int->Option (List Int)} {acc:List Int->Prop} {M:Nat} : ∀k s f,∃l,(Wp cl acc m M k s f).2=s.2++l:=by
 intro k
 induction k with
 | zero=>intro s f;exact ⟨[],by simp [Wp]⟩
 | succ k ih=>
   intro s f;simp only [Wp];split
   ·split
    ·exact ⟨[f],rfl⟩
    ·exact ⟨[],by simp⟩
   ·exact Avq (λs g=>ih s g) m 0 s
theorem A8g (h:Pair a b n m) (emb:Bool) (acc:List Int->Prop) (M:Nat) {z:List Int} (hz:Kp a b z) (ha:acc z) (hi:emb=true->Z7 z) : ∀k s f,Cm f<k->okF n m f->ext f z ->
  ¬Hc M (Wp (C6 a b n m emb) acc m M k s f)->z∈(Wp (C6 a b n m emb) acc m M k s f).2:=by
 have hzl:z.length=n:=by have:=hz.2.1.1;have:=h.sa;omega
 have hzm:Bc z m:=by have:=hz.2.1.2;rw [h.sb] at this;exact this
 intro k
 induction k with
 | zero=>intro s f hk;omega
 | succ k ih=>
   intro s f hk hf he hd;simp only [Wp] at hd ⊢;by_cases hq:Ek f=f.length
   ·rw [ip0 hq];have hop:=Ago.1 hq;have hfz:f=z:=by
     refine Fi (by rw [hf.1,hzl]) λx hx=> ?_
     exact (he x hx (Arb.1 hop _ (Aj hx))).symm
    rw [hfz,ip0 ha];simp
   ·rw [in0 hq] at hd ⊢;have hq4:Ek f<f.length:=by have:=Zs f;omega
    have hneg:=Zx f hq4;have hfl:=hf.1;have hzv:=hzm _ (Aj (show Ek f<z.length by omega));have key : ∀c y s,y+c=m->(y:Int)<=nth z (Ek f)->¬Hc M (P7 (Wp (C6 a b n m emb) acc m M k) (C6 a b n m emb) M f (Ek f) c y s)->z∈(P7 (Wp (C6 a b n m emb) acc m M k) (C6 a b n m emb) M f (Ek f) c y s).2:=by
     intro c
     induction c with
     | zero=>intro y s hy hv _;omega
     | succ c ihc=>
       intro y s hy hv hd;simp only [P7] at hd ⊢;by_cases h1:Hc M s
       ·rw [ip0 h1] at hd;exact absurd h1 hd
       ·rw [in0 h1] at hd ⊢;by_cases h5:s.1+1>5000
        ·rw [ip0 h5] at hd;exact absurd (by unfold Hc;simp only;omega) hd
        ·rw [in0 h5] at hd ⊢;have hof:okF n m (f.set (Ek f) (y:Int)):=hf.set (by omega);have hop:=Aep hq4 hneg (y:=(y:Int)) (by omega);by_cases hyz:nth z (Ek f)=(y:Int)
         ·have hez:ext (f.set (Ek f) (y:Int)) z:=λx hx hx0=>by
           simp only [List.length_set] at hx;rw [Jd _ _ _ _ hx] at hx0 ⊢;split at hx0
           ·rename_i e;rw [ip0 e,<-e];exact hyz
           ·rename_i e;rw [in0 e];exact he x hx hx0
          obtain ⟨g,e,hg⟩:=Aqh h hof hz hi hez;obtain ⟨g1,g2,g3,_⟩:=Uy h hof e;rw [e] at hd ⊢;dsimp only at hd ⊢;have hd2:¬Hc M (Wp (C6 a b n m emb) acc m M k (s.1+1,s.2) g):=λhc=>by rw [Aq0 hc] at hd;exact hd hc
          have hin:=ih (s.1+1,s.2) g (by omega) g1 hg hd2;obtain ⟨l,el⟩:=Avq (rec_:=Wp (C6 a b n m emb) acc m M k) (λs g=>A9f k s g) (cl:=C6 a b n m emb) (M:=M) (f:=f) (q:=Ek f) c (y+1) (Wp (C6 a b n m emb) acc m M k (s.1+1,s.2) g);rw [el];exact List.mem_append_left _ hin
         ·split at hd
          ·exact ihc (y+1) _ (by omega) (by omega) hd
          ·exact ihc (y+1) _ (by omega) (by omega) hd
    exact key m 0 s (by omega) (by omega) hd
theorem Aml (h:Pair a b n m) (emb:Bool) (acc:List Int->Prop) (M:Nat):(Mr a b n m emb acc M).2.Nodup /\ ∀z∈(Mr a b n m emb acc M).2,FoundZ a b n m emb acc z:=by
 cases e:C6 a b n m emb (List.replicate n (-1)) with
 | none=>rw [Aqn e];exact ⟨List.nodup_nil,λz hz=>by cases hz⟩
 | some g=> rw [Ags e];obtain ⟨g1,g2,g3,g4,g5⟩:=Uy h (Aj7 n m) e;obtain ⟨l,e1,n1,p1⟩:=A2n h emb acc M (Cm g+1) (0,[]) g (Nat.lt_succ_self _) g1 g4 g5;rw [e1];exact ⟨by simpa using n1,λz hz=>(p1 z (by simpa using hz)).1⟩
theorem A7g (h:Pair a b n m) (emb:Bool) (acc:List Int->Prop) (M:Nat) {z:List Int} (hz:Kp a b z) (ha:acc z) (hi:emb=true->Z7 z) (hd:¬Hc M (Mr a b n m emb acc M)):z∈(Mr a b n m emb acc M).2:=by
 have he:ext (List.replicate n (-1)) z:=λx hx h0=>by rw [Afr _ (by simpa using hx)] at h0;omega
 obtain ⟨g,e,hg⟩:=Aqh h (Aj7 n m) hz hi he;rw [Ags e] at hd ⊢;exact A8g h emb acc M hz ha hi (Cm g+1) (0,[]) g (Nat.lt_succ_self _) (Uy h (Aj7 n m) e).1 hg hd
end
section
variable {a b:SAlgebra} {n m:Nat}
theorem A9w (h:Pair a b n m) (emb onto:Bool) (good:Aoa) (hfc:Baq n m 1 (Ac3 m onto) (λfs=> .inr (good,fs.head?))):Ji a b emb good=some ((Mr a b n m emb (Ac3 m onto) 1).2.head?,decide ((Mr a b n m emb (Ac3 m onto) 1).1<=5000)):=by have e:=A7c h emb (M:=1) (by omega) hfc;unfold Ji;have e':F2 a b emb (Sum.inr (good,none))=Bcc (λfs=> .inr (good,fs.head?)) (Mr a b n m emb (Ac3 m onto) 1):=e;rw [e'];unfold Bcc;simp only [obs0];cases (Mr a b n m emb (Ac3 m onto) 1).2<;>rfl
end
def Ant (a b:SAlgebra) (f:List Int):Prop:=Kp a b f/\a.Size=b.Size/\uniq f
theorem A7p {f:List Int} {n:Nat} (h:Bc f n):Z7 f↔uniq f:= ⟨λhi i hl=>hi i hl (h _ (Aj hl)).1,λhu i hl _=>hu i hl⟩
section
variable {a b c:SAlgebra} {f g:List Int}
theorem Kp.inb (h:Kp a b f):Bc f b.Size.toNat:=by
 have h1:=h.2.1.2;have h2:=h.1.2.1.1
 rwa [show b.Size=((b.Size.toNat:Nat):Int) by omega] at h1
theorem Kp.emb (h:Kp a b f):Z7 f↔uniq f:=A7p h.inb
theorem Ant.perm (h:Ant a b f):Perm f a.Size.toNat:=by have h1:=h.1.inb;have h2:=h.1.2.1.1;rw [<-h.2.1] at h1;exact ⟨by omega,h1,h.2.2⟩
theorem Perm.inj {n:Nat} (h:Perm f n) {x y:Nat} (hx:x<n) (hy:y<n) (e:nth f x=nth f y):x=y:=by
 have key : ∀ {x y:Nat},x<y->y<n->nth f x=nth f y->False:=by
  intro x y hxy hy e;have hl:=h.len;refine h.un y (by omega) (Cw.2 ⟨x,by simp;omega,?_⟩);have:nth (f.take y) x=nth f x:=by rw [Ce (by simp;omega),Ce (by omega),List.getElem_take]
  rw [this,e]
 rcases Nat.lt_trichotomy x y with h1 | h1 | h1
 ·exact (key h1 hy e).elim
 ·exact h1
 ·exact (key h1 hx e.symm).elim
theorem Sc {n:Nat} (hl:f.length=n) (h : ∀x y,x<n->y<n->nth f x=nth f y->x=y):uniq f:=by
 intro i hi hm;obtain ⟨j,hj,e⟩:=Cw.1 hm;have hj2:j<i:=by simp at hj;omega
 have:nth (f.take i) j=nth f j:=by rw [Ce hj,Ce (by omega),List.getElem_take]
 rw [this] at e;have:=h j i (by omega) (by omega) e;omega
theorem Perm.undo {n:Nat} (h:Perm f n) : ∃j:List Int,j.length=n /\ ∀x,x<n->nth j (nth f x).toNat=(x:Int):=by
 refine ⟨(List.range n).map λy=>if hx : ∃x,x<n/\nth f x=((y:Nat):Int) then ((Classical.choose hx:Nat):Int) else 0,by simp,λx hx=> ?_⟩;have hv:=h.fin _ (Aj (show x<f.length by rw [h.len];exact hx));have hex : ∃z,z<n/\nth f z=(((nth f x).toNat:Nat):Int):=⟨x,hx,by omega⟩
 rw [Bk _ (by simp;omega),F0 (by omega),dif_pos hex];obtain ⟨c1,c2⟩:=Classical.choose_spec hex;have:=h.inj c1 hx (by rw [c2];omega);omega
theorem Ant.inv (h:Ant a b f) : ∃j,Ant b a j/\(∀x,x<a.Size.toNat->nth j (nth f x).toNat=(x:Int)) /\ ∀y,y<a.Size.toNat->nth f (nth j y).toNat=(y:Int):=by
 have hP:=h.perm;have hn8:a.Size.toNat<=8:=by have:=h.1.1.1.2.1;omega
 obtain ⟨j,h1,h2⟩:=hP.undo;have hin:=A83 hP h1 h2;have hback : ∀y,y<a.Size.toNat->nth f (nth j y).toNat=(y:Int):=by intro y hy;obtain ⟨x,hx,e⟩:=hP.onto hy;have h3:=h2 x hx;rw [e,tna0] at h3;rw [h3,tna0,e]
 have hb:b.Size.toNat=a.Size.toNat:=by rw [h.2.1]
 refine ⟨j,⟨Bbz h.1 h.2.1 hP h1 h2,h.2.1.symm,Sc h1 λx y hx hy e=> ?_⟩,h2,hback⟩;have e1:=hback x hx;rw [e,hback y hy] at e1;omega
theorem Ant.comp (h1:Ant a b f) (h2:Ant b c g):Ant a c (Am f g):=by
 have hP:=h1.perm;have hQ:=h2.perm;have hl:=hP.len;have hb:b.Size.toNat=a.Size.toNat:=by rw [h1.2.1]
 refine ⟨A0b h1.1 h2.1,h1.2.1.trans h2.2.1,Sc (n:=a.Size.toNat) (by simp [Am,hl]) λx y hx hy e=> ?_⟩;have hx2:=hP.fin _ (Aj (show x<f.length by omega));have hy2:=hP.fin _ (Aj (show y<f.length by omega));unfold Am at e;rw [Bk _ (by omega),Bk _ (by omega)] at e;have:=hQ.inj (by omega) (by omega) e;exact hP.inj hx hy (by omega)
def idL (n:Nat):List Int:=(List.range n).map λi:Nat=>(i:Int)
theorem Aqp {n x:Nat} (h:x<n):nth (idL n) x=(x:Int):=by unfold idL;rw [Bk _ (by simpa using h),F0 h]
end
theorem Au8 {α:Type} [DecidableEq α] : ∀ {L M:List α},L.Nodup->(∀r∈L,r∈M)->L.length<=M.length
 | [],_,_,_=>Nat.zero_le _
 | x::L,M,h1,h=>by
   have hx:=h x (by simp);have h2:=(List.nodup_cons.1 h1)
   have:=Au8 (L:=L) (M:=M.erase x) h2.2 λr hr=>by
    have hne:r≠x:=λe=>h2.1 (e▸hr)
    exact (List.mem_erase_of_ne hne).2 (h r (by simp [hr]))
   rw [List.length_erase_of_mem hx] at this;have hp:0<M.length:=List.length_pos_of_mem hx;simp only [List.length_cons];omega
def Kh (n:Nat) (p:List Int):Prop:=p.length=n /\ ∀i,i<n->0<=nth p i/\nth p i<=i/\nth p (nth p i).toNat=nth p i
theorem At9 {p:List Int} (hl:p.length<=1048576) (n:Nat):G7 n p=some (decide (Kh n p)):=by
 unfold G7;by_cases h:p.length=n
 ·rw [in0 (by omega)];have this:=Jx (body:=C4 p) (λi=>(i:Int)) p.length (λi=>¬(0<=nth p i/\nth p i<=i/\nth p (nth p i).toNat=nth p i)) () () (λi hi hb=>by
   have hb:=Classical.not_not.1 hb;unfold C4;rw [ip0 (by omega),Ae (by omega),tna0,in0 (by omega),in0 (by omega),Ae (by omega),in0 (by simpa using hb.2.2),Ae (by omega)];rfl) (λi hi hb=>by
   unfold C4;rw [ip0 (by omega),Ae (by omega),tna0];by_cases h1:nth p i<0
   ·rw [ip0 h1]
   ·rw [in0 h1];by_cases h2:nth p i>i
    ·rw [ip0 h2]
    ·rw [in0 h2,Ae (by omega),ip0 (λh3=>hb ⟨by omega,by omega,h3⟩)]) (by
   unfold C4;rw [in0 (by omega)]) 0 (by omega)
  refine (Ly this false true).trans (congrArg some (Un ?_));rw [Oe];unfold Kh;constructor
  ·intro hh;exact ⟨h,λi hi=>hh i (by omega)⟩
  ·rintro ⟨_,hh⟩ i hi;exact hh i (by omega)
 ·rw [ip0 (by omega),dfa0 (λhh=>h hh.1)]
theorem Ats {p:List Int} (hl:p.length<=1048576) (n:Nat):Ha n p=some (decide (Kh n p)):=by
 unfold Ha;by_cases h:p.length=n
 ·rw [in0 (by omega)];have this:=Jx (body:=C5 n p) (λi=>(i:Int)) p.length (λi=>¬(0<=nth p i/\nth p i<=i/\nth p (nth p i).toNat=nth p i)) () () (λi hi hb=>by
   have hb:=Classical.not_not.1 hb;unfold C5;rw [ip0 (by omega),Ae (by omega),tna0,Ad2];simp only [obs0];rw [dtr0 ⟨hb.1,hb.2.1⟩,ip0 rfl,Ae (by omega),Ae (by omega),Ae (by omega),in0 (by simpa using hb.2.2),Ae (by omega)];rfl) (λi hi hb=>by
   unfold C5;rw [ip0 (by omega),Ae (by omega),tna0,Ad2];simp only [obs0];by_cases h1:0<=nth p i/\nth p i<=i
   ·rw [dtr0 h1,ip0 rfl,Ae (by omega),Ae (by omega),Ae (by omega),ip0 (λh3=>hb ⟨h1.1,h1.2,h3⟩)]
   ·rw [dfa0 h1,in0 (by simp)]) (by
   unfold C5;rw [in0 (by omega)]) 0 (by omega)
  refine (Ly this false true).trans (congrArg some (Un ?_));rw [Oe];unfold Kh;constructor
  ·intro hh;exact ⟨h,λi hi=>hh i (by omega)⟩
  ·rintro ⟨_,hh⟩ i hi;exact hh i (by omega)
 ·rw [ip0 (by omega),dfa0 (λhh=>h hh.1)]
theorem Kh.inS {n:Nat} {p:List Int} (h:Kh n p):Bc p n:=by intro x hx;obtain ⟨i,hi,rfl⟩:=Cw.1 hx;have:=h.2 i (by have:=h.1;omega);have:=h.1;omega
theorem Au0 {p:List Int} (hl:p.length<=1048576):Fr p=some ((Ar p.length λi=>decide (nth p i=(i:Int))).length:Int):=by
 unfold Fr;rw [A20 (body:=F3 p) p.length (λi=>decide (nth p i=(i:Int))) (λi c hi hc=>by
  unfold F3;dsimp only;rw [ip0 (by omega),Ae (by omega),tna0];by_cases h:nth p i=(i:Int)
  ·rw [ip0 h,dtr0 h,ip0 rfl,Ae (by omega),Ae (by omega)];rfl
  ·rw [in0 h,dfa0 h,in0 (by simp),Ae (by omega)];rfl) (λc=>by
  unfold F3;dsimp only;rw [in0 (by omega)])]
 rfl
def leP (q p:List Int):Prop:=q.length=p.length /\ ∀i,i<p.length->nth q i<=nth p i
theorem leP.refl (p:List Int):leP p p:=⟨rfl,λ_ _=>Int.le_refl _⟩
theorem leP.trans {a b c:List Int} (h:leP a b) (h':leP b c):leP a c:=⟨h.1.trans h'.1,λi hi=>Int.le_trans (h.2 i (by rw [h'.1];exact hi)) (h'.2 i hi)⟩
theorem leP.anti {a b:List Int} (h:leP a b) (h':leP b a):a=b:=Fi h.1 λi hi=>Int.le_antisymm (h.2 i (by rw [<-h.1];exact hi)) (h'.2 i hi)
def mgF (u v z:Int):Int:=if z=(if u>v then u else v) then (if u<v then u else v) else z
theorem Axa {u v:Int} (h:u>v) (z:Int):mgF u v z=if z=u then v else z:=by unfold mgF;rw [ip0 h,in0 (show ¬u<v by omega)]
theorem Axm {u v:Int} (h:u<v) (z:Int):mgF u v z=if z=v then u else z:=by unfold mgF;rw [in0 (show ¬u>v by omega),ip0 h]
theorem A3b (u z:Int):mgF u u z=z:=by
 unfold mgF;rw [in0 (show ¬u>u by omega)];try rw [in0 (show ¬u<u by omega)]
 by_cases h:z=u
 ·rw [ip0 h,h]
 ·rw [in0 h]
theorem Bep (u v z:Int):mgF u v z<=z:=by
 rcases Int.lt_trichotomy u v with h | h | h
 ·rw [Axm h];split<;>omega
 ·rw [h,A3b];omega
 ·rw [Axa h];split<;>omega
theorem Bdf {u v z n:Int} (hu:0<=u/\u<n) (hv:0<=v/\v<n) (hz:0<=z/\z<n):0<=mgF u v z/\mgF u v z<n:=by
 rcases Int.lt_trichotomy u v with h | h | h
 ·rw [Axm h];split<;>omega
 ·rw [h,A3b];omega
 ·rw [Axa h];split<;>omega
def mg (p:List Int) (u v:Int):List Int:=p.map (mgF u v)
theorem A8f (p:List Int) (u v:Int):(mg p u v).length=p.length:=by simp [mg]
theorem A93 (p:List Int) (u:Int):mg p u u=p:=by unfold mg;rw [show mgF u u=id from funext (A3b u),List.map_id]
theorem A88 (p:List Int) (u v:Int):leP (mg p u v) p:=⟨A8f p u v,λi hi=>by unfold mg;rw [Bk _ hi];exact Bep _ _ _⟩
theorem A8j {out p:List Int} {x y:Nat} (h:leP out p) (hx:x<p.length) (hy:y<p.length):mg out (nth out x) (nth out y)=p↔out=p/\nth p x=nth p y:=by
 constructor
 ·intro e;have h1:leP p out:=by
   have:=A88 out (nth out x) (nth out y);rw [e] at this;exact this
  have h2:out=p:=leP.anti h h1;subst h2;refine ⟨rfl,?_⟩;have e1:nth (mg out (nth out x) (nth out y)) x=nth out x:=by rw [e]
  have e2:nth (mg out (nth out x) (nth out y)) y=nth out y:=by rw [e]
  unfold mg at e1 e2;rw [Bk _ hx] at e1;rw [Bk _ hy] at e2;rcases Int.lt_trichotomy (nth out x) (nth out y) with hh | hh | hh
  ·rw [Axm hh,ip0 rfl] at e2;exact e2
  ·exact hh
  ·rw [Axa hh,ip0 rfl] at e1;exact e1.symm
 ·rintro ⟨rfl,e⟩;rw [e,A93]
def okP (n:Nat) (q:List Int):Prop:=q.length=n/\Bc q n
theorem Az8 {n:Nat} {q:List Int} (h:okP n q) {x y:Nat} (hx:x<n) (hy:y<n):okP n (mg q (nth q x) (nth q y)):=by refine ⟨by rw [A8f];exact h.1,λz hz=> ?_⟩;obtain ⟨w,hw,rfl⟩:=List.mem_map.1 hz;exact Bdf (h.2 _ (Aj (by rw [h.1];exact hx))) (h.2 _ (Aj (by rw [h.1];exact hy))) (h.2 _ hw)
theorem Bfa {body:(Int×List Int)->Option ((Int×List Int) ⊕ List Int)} (p:List Int) (f:Int->Int)
  (h : ∀(i:Nat) (w:List Int),i<p.length->w.length=p.length->nth w i=nth p i -> ∃w',body ((i:Int),w)=some (.inl (((i+1:Nat):Int),w'))/\w'=w.set i (f (nth p i)))
  (he : ∀w:List Int,w.length=p.length->body ((p.length:Int),w)=some (.inr w)):Ak body (0,p)=some (p.map f):=by
 obtain ⟨t,ht,hp⟩:=Ds (body:=body) (λs => ∃i:Nat,s.1=(i:Int)/\i<=p.length/\s.2.length=p.length /\ ∀j,j<p.length->nth s.2 j=if j<i then f (nth p j) else nth p j) (λs=>p.length-s.1.toNat) (λt=>t=p.map f) (by
  rintro ⟨x,w⟩ ⟨i,h0,h1,h2,h3⟩;dsimp only at h0 h1 h2 h3;subst h0;by_cases hi:i<p.length
  ·obtain ⟨w',e,ew⟩:=h i w hi h2 (by rw [h3 i hi,in0 (by omega)]);refine .inl ⟨_,e,⟨i+1,rfl,by omega,by rw [ew,List.length_set];exact h2,λj hj=> ?_⟩,by dsimp only;omega⟩;dsimp only;rw [ew,Jd _ _ _ _ (by omega)];by_cases hij:i=j
   ·subst hij;rw [ip0 rfl,ip0 (by omega)]
   ·rw [in0 hij,h3 j hj];by_cases hlt:j<i
    ·rw [ip0 hlt,ip0 (by omega)]
    ·rw [in0 hlt,in0 (by omega)]
  ·have ei:i=p.length:=by omega
   subst ei;refine .inr ⟨_,he w h2,Fi (by rw [h2,List.length_map]) λj hj=> ?_⟩;rw [h3 j (by omega),ip0 (by omega),Bk _ (by omega)]) (s:=(0,p)) ⟨0,rfl,by omega,rfl,λj hj=>by simp⟩
 rw [ht,hp]
theorem Bb1 {w:List Int} {i:Nat} {z:Int} (h:nth w i=z):w=w.set i z:=by
 refine Fi (by simp) λj hj=> ?_
 rw [Jd _ _ _ _ hj];by_cases hij:i=j
 ·subst hij;rw [ip0 rfl,h]
 ·rw [in0 hij]
theorem Bat {p:List Int} (hl:p.length<=1048576) {X Y:Int} (hx:0<=X/\X<p.length) (hy:0<=Y/\Y<p.length):Ol p X Y=some (decide (¬nth p X.toNat=nth p Y.toNat),mg p (nth p X.toNat) (nth p Y.toNat)):=by
 unfold Ol;rw [Ae hx,Ae hy];by_cases h:nth p X.toNat=nth p Y.toNat
 ·rw [ip0 h,h,A93,dfa0 (λhh=>hh rfl)]
 ·have key : ∀hi lo:Int,Ak (Gb p hi lo) (0,p)=some (p.map λz=>if z=hi then lo else z):=λhi lo=>
   Bfa (body:=Gb p hi lo) p _ (λi w hi' hw hn=>by
    unfold Gb;dsimp only;rw [ip0 (by omega),Ae (by omega),tna0,hn];by_cases hz:nth p i=hi
    ·rw [ip0 hz,Ae (by omega),Ae (by omega),ip0 hz];exact ⟨_,rfl,rfl⟩
    ·rw [in0 hz,Ae (by omega),in0 hz];exact ⟨_,rfl,Bb1 hn⟩) (λw hw=>by
    unfold Gb;dsimp only;rw [in0 (by omega)])
  rw [in0 h,dtr0 h];unfold mg;by_cases hg:nth p X.toNat>nth p Y.toNat
  ·rw [ip0 hg];simp only [obs0];rw [key,show mgF (nth p X.toNat) (nth p Y.toNat)=λz=>if z=nth p X.toNat then nth p Y.toNat else z from funext (Axa hg)];rfl
  ·rw [in0 hg];simp only [obs0];rw [key,show mgF (nth p X.toNat) (nth p Y.toNat)=λz=>if z=nth p Y.toNat then nth p X.toNat else z from funext (Axm (by omega))];rfl
theorem Zm {p:List Int} (hl:p.length<=1048576) {X Y:Int} (hx:0<=X/\X<p.length) (hy:0<=Y/\Y<p.length):Fv p X Y=some (mg p (nth p X.toNat) (nth p Y.toNat)):=by
 unfold Fv;have e1 : ∀a b:Int,Fu a b=some (if a<b then a else b):=λa b=>by unfold Fu;split<;>rfl
 rw [Ae hx,Ae hy,e1];simp only [obs0];rw [Ae hx,Ae hy,A1q];simp only [obs0];have key : ∀hi lo:Int,Ak (En p lo hi) (0,Aw Int)=some (p.map λz=>if z=hi then lo else z):=λhi lo=>
  Bn (body:=En p lo hi) (λi=>((i:Int),(p.take i).map λz=>if z=hi then lo else z)) p.length _ (λi hi'=>by
   unfold En;dsimp only;rw [ip0 (by omega),Ae (by omega),tna0,C9 hi',List.map_append];by_cases hz:nth p i=hi
   ·rw [ip0 hz,Ae (by rw [At,List.length_map,List.length_take];simp;omega),Ae (by omega)];simp only [List.map_cons,List.map_nil,ip0 hz];rfl
   ·rw [in0 hz,Ae (by omega),Ae (by rw [At,List.length_map,List.length_take];simp;omega),Ae (by omega)];simp only [List.map_cons,List.map_nil,in0 hz];rfl) (by
   unfold En;dsimp only;rw [in0 (by omega),List.take_length])
 rw [key];rfl
def Rel (n:Nat) (s t:Bool×Bool×List Int) (D:Prop):Prop:=
 okP n t.2.2/\leP t.2.2 s.2.2/\((t=s/\D)\/(t.2.2≠s.2.2/\t.1=true/\t.2.1=true/\¬D))
theorem Rel.congr {n:Nat} {s t:Bool×Bool×List Int} {D E:Prop} (h:Rel n s t D) (e:D↔E):Rel n s t E:=by rw [<-propext e];exact h
theorem Rel.comp {n:Nat} {s t r:Bool×Bool×List Int} {D E E':Prop} (h:Rel n s t D) (h':Rel n t r E) (hE:t=s->(E↔E')):Rel n s r (D/\E'):=by
 obtain ⟨_,a2,a3⟩:=h;obtain ⟨b1,b2,b3⟩:=h';refine ⟨b1,b2.trans a2,?_⟩;rcases a3 with ⟨e,d⟩ | ⟨e,d1,d2,d3⟩
 ·have hE:=hE e;rw [e] at b3;rcases b3 with ⟨e',x⟩ | ⟨e',x1,x2,x3⟩
  ·exact .inl ⟨e',d,hE.1 x⟩
  ·exact .inr ⟨e',x1,x2,λhh=>x3 (hE.2 hh.2)⟩
 ·have hne:r.2.2≠s.2.2:=λhh=>e (leP.anti a2 (by rw [<-hh];exact b2))
  rcases b3 with ⟨e',_⟩ | ⟨_,x1,x2,_⟩
  ·rw [e'] at hne ⊢;exact .inr ⟨hne,d1,d2,λhh=>d3 hh.1⟩
  ·exact .inr ⟨hne,x1,x2,λhh=>d3 hh.1⟩
theorem Aqs {σ:Type} {n:Nat} {body:σ->Option (σ ⊕ (Bool×Bool×List Int))} (st:Nat->Bool×Bool×List Int->σ) (N:Nat) (C:Nat->List Int->Prop)
  (h : ∀i s,i<N->okP n s.2.2 -> ∃s',body (st i s)=some (.inl (st (i+1) s'))/\Rel n s s' (C i s.2.2))
  (he : ∀s,okP n s.2.2->body (st N s)=some (.inr s)) (s:Bool×Bool×List Int) (hs:okP n s.2.2) : ∃s',Ak body (st 0 s)=some s'/\Rel n s s' (∀i,i<N->C i s.2.2):=by
 have key : ∀k,k<=N -> ∀s,okP n s.2.2 -> ∃s',Ak body (st (N-k) s)=some s'/\Rel n s s' (∀i,N-k<=i->i<N->C i s.2.2):=by
  intro k
  induction k with
  | zero=> intro _ s hs;exact ⟨s,Cv (he s hs),hs,leP.refl _,.inl ⟨rfl,λi h1 h2=>by omega⟩⟩
  | succ k ih=>
    intro hk s hs;obtain ⟨t,e1,r1⟩:=h (N-(k+1)) s (by omega) hs;obtain ⟨r,e2,r2⟩:=ih (by omega) t r1.1;have e:N-(k+1)+1=N-k:=by omega
    refine ⟨r,by rw [F6 e1,e];exact e2,?_⟩;refine (Rel.comp r1 r2 (E' := ∀i,N-k<=i->i<N->C i s.2.2) (λhh=>by rw [hh])).congr ?_;constructor
    ·rintro ⟨h1,h2⟩ i h3 h4;by_cases hi:i=N-(k+1)
     ·subst hi;exact h1
     ·exact h2 i (by omega) h4
    ·intro hh;exact ⟨hh _ (Nat.le_refl _) (by omega),λi h1 h2=>hh i (by omega) h2⟩
 obtain ⟨r,e,hr⟩:=key N (Nat.le_refl _) s hs;rw [Nat.sub_self] at e hr;exact ⟨r,e,hr.congr ⟨λhh i hi=>hh i (Nat.zero_le _) hi,λhh i _ hi=>hh i hi⟩⟩
def Ax3 (n:Nat) (p:List Int) (e i:Nat):Int:=(i:Int)+(nth p (i/n^e%n)-((i/n^e%n:Nat):Int))*((n^e:Nat):Int)
theorem Aki (i n:Nat):((i/n:Nat):Int)*(n:Int)+((i%n:Nat):Int)=(i:Int):=by rw [<-Int.natCast_mul,<-Int.natCast_add,Nat.mul_comm,Nat.div_add_mod]
theorem Awn {n r i:Nat} (hi:i<n^(r+1)):i/n<n^r:=by rw [Nat.pow_succ,Nat.mul_comm] at hi;exact Nat.div_lt_of_lt_mul hi
theorem A9a {n:Nat} : ∀r i,i<n^r->Pv n (B0 n r i)=(i:Int):=by
 intro r
 induction r with
 | zero => intro i hi;have:i=0:=by simpa using hi
           subst this;rfl
 | succ r ih=> intro i hi;simp only [B0];rw [Ny,ih _ (Awn hi),Aki]
theorem Ys {n:Nat} (p:List Int) : ∀r i k,i<n^r->k<r->Pv n ((B0 n r i).set k (nth p (nth (B0 n r i) k).toNat))=Ax3 n p (r-1-k) i:=by
 intro r
 induction r with
 | zero=>intro i k _ hk;omega
 | succ r ih=>
   intro i k hi hk;simp only [B0];have hl:=C7 n r (i/n);by_cases hkr:k=r
   ·subst hkr;have e1:nth (B0 n k (i/n)++[((i%n:Nat):Int)]) k=((i%n:Nat):Int):=by
     have:=V4 (xs:=B0 n k (i/n)) (y:=((i%n:Nat):Int));rw [hl] at this;exact this
    rw [e1,tna0];have e2 : ∀v:Int,(B0 n k (i/n)++[((i%n:Nat):Int)]).set k v=B0 n k (i/n)++[v]:=λv=>by rw [List.set_append,in0 (by omega),hl,Nat.sub_self];rfl
    rw [e2,Ny,A9a _ _ (Awn hi)];unfold Ax3;rw [show k+1-1-k=0 by omega,Nat.pow_zero,Nat.div_one,Int.natCast_one,Int.mul_one];have:=Aki i n;omega
   ·have hkl:k<r:=by omega
    rw [Hh (by omega),List.set_append,ip0 (by omega),Ny,ih _ _ (Awn hi) hkl];unfold Ax3;rw [show r+1-1-k=r-1-k+1 by omega,Nat.pow_succ,Nat.div_div_eq_div_mul,Nat.mul_comm n];have:=Aki i n;rw [Int.add_mul,Int.natCast_mul,Int.mul_assoc];omega
theorem Bc6 {xs:List Int} {n v:Int} (h:Bc xs n) (hv:0<=v/\v<n) (k:Nat):Bc (xs.set k v) n:=by
 intro x hx;rcases List.mem_or_eq_of_mem_set hx with hx | hx
 ·exact h x hx
 ·rw [hx];exact hv
theorem A2x {n:Nat} (hn:0<n) {q:List Int} (hq:okP n q) {r i k:Nat} (hk:k<r):Bc ((B0 n r i).set k (nth q (nth (B0 n r i) k).toNat)) n:=by have h1:=Ii hn r i;have h2:=h1 _ (Aj (show k<(B0 n r i).length by rw [C7];exact hk));exact Bc6 h1 (hq.2 _ (Aj (by rw [hq.1];omega))) k
theorem Apb {n:Nat} (hn:0<n) {q:List Int} (hq:okP n q) {r i e:Nat} (hi:i<n^r) (he:e<r) : ∃c:Nat,Ax3 n q e i=(c:Int)/\c<n^r:=by have h1:=Ys q r i (r-1-e) hi (by omega);rw [show r-1-(r-1-e)=e by omega] at h1;rw [<-h1];exact Ajg r _ (by rw [List.length_set,C7]) (A2x hn hq (by omega))
section
variable {a:SAlgebra} {n:Nat}
theorem opX (ga:Ca a) (hn:a.Size=n) {i:Nat} (hi:i<a.Ops.length) : ∃r:Nat,r<=3/\(nth a.Ops i).Arity=r/\(nth a.Ops i).Table.length=n^r/\Bc (nth a.Ops i).Table n/\n^r<=512/\0<n/\n<=8:=by
 have hn':a.Size.toNat=n:=by omega
 have h1:=ga.1;have h2:=ga.2.1;obtain ⟨b1,b2,b3,b4⟩:=ga.2.2.2 _ (Aj hi);rw [hn'] at b3 b4;exact ⟨(nth a.Ops i).Arity.toNat,by omega,by omega,b3,b4,Yh (by omega) (by omega),by omega,by omega⟩
def Aha (a:SAlgebra) (n o e i:Nat) (q:List Int):Prop:=nth q (nth (nth a.Ops o).Table i).toNat=nth q (nth (nth a.Ops o).Table (Ax3 n q e i).toNat).toNat
def Awr (a:SAlgebra) (n:Nat) (q:List Int):Prop := ∀o,o<a.Ops.length -> ∀e,e<(nth a.Ops o).Arity.toNat -> ∀i,i<(nth a.Ops o).Table.length->Aha a n o e i q
theorem A75 (ga:Ca a) (hn:a.Size=n) {o e:Nat} (ho:o<a.Ops.length) (he:e<(nth a.Ops o).Arity.toNat) (s:Bool×Bool×List Int) (hs:okP n s.2.2) :
  ∃s',Ak (Ci a (o:Int) (e:Int) ((n^e:Nat):Int)) (0,s.1,s.2.1,s.2.2)=some s'/\Rel n s s' (∀i,i<(nth a.Ops o).Table.length->Aha a n o e i s.2.2):=by
 obtain ⟨r,r3,hr,hT,hTi,h512,hn0,hn8⟩:=opX ga hn ho;refine Aqs (body:=Ci a (o:Int) (e:Int) ((n^e:Nat):Int)) (λi s=>((i:Int),s.1,s.2.1,s.2.2)) (nth a.Ops o).Table.length (λi q=>Aha a n o e i q) (λi s hi hs=> ?_) (λs hs=> ?_) s hs
 ·obtain ⟨c,w,q⟩:=s;dsimp only at hs ⊢;obtain ⟨x,ex⟩ : ∃x,x=i/n^e%n:=⟨_,rfl⟩
  have hx:x<n:=by rw [ex];exact Nat.mod_lt _ hn0
  obtain ⟨y,ey⟩ : ∃y,y=i/n^e:=⟨_,rfl⟩
  have c1:(i:Int).tdiv ((n^e:Nat):Int)=(y:Int):=by rw [ey];rfl
  have c2:(y:Int).tmod (n:Int)=(x:Int):=by rw [ex,ey];rfl
  have sw:Ax3 n q e i=(i:Int)+(nth q x-(x:Int))*((n^e:Nat):Int):=by rw [ex];rfl
  obtain ⟨d,hd,hd2⟩:=Apb hn0 hs (r:=r) (i:=i) (by omega) (show e<r by omega);have hok:Aha a n o e i q↔nth q (nth (nth a.Ops o).Table i).toNat=nth q (nth (nth a.Ops o).Table d).toNat:=by unfold Aha;rw [hd,tna0]
  rw [sw] at hd;have hpow:0<n^e:=Nat.pow_pos hn0;have hq:=hs.2 _ (Aj (show x<q.length by rw [hs.1];exact hx));have hsl:=hs.1;have y1:=hTi _ (Aj (show i<(nth a.Ops o).Table.length from hi));have y2:=hTi _ (Aj (show d<(nth a.Ops o).Table.length by omega));have hdiv:y<=i:=by rw [ey];exact Nat.div_le_self _ _
  have hu:=Bat (p:=q) (by omega) (X:=nth (nth a.Ops o).Table i) (Y:=nth (nth a.Ops o).Table d) (by omega) (by omega);unfold Ci;dsimp only;simp only [hn,c1,c2,tna0,hd];rw [ip0 (by omega),Ae (by omega),Ae (by omega),Ae (by omega),Ae (by omega),Ae (by omega),Ae (by omega),Ae (by omega),Ae (by omega),hu];simp only [obs0];by_cases hk:nth q (nth (nth a.Ops o).Table i).toNat=nth q (nth (nth a.Ops o).Table d).toNat
  ·rw [dfa0 (λhh=>hh hk),in0 (by simp),Ae (by omega),hk,A93];exact ⟨(c,w,q),rfl,hs,leP.refl _,.inl ⟨rfl,hok.2 hk⟩⟩
  ·rw [dtr0 hk,ip0 rfl,Ae (by omega)];refine ⟨(true,true,_),rfl,Az8 hs (by omega) (by omega),A88 _ _ _,.inr ⟨λhh=> ?_,rfl,rfl,λhh=>hk (hok.1 hh)⟩⟩;exact hk ((A8j (leP.refl q) (by omega) (by omega)).1 hh).2
 ·unfold Ci;dsimp only;rw [tna0,in0 (by omega)]
theorem A55 (ga:Ca a) (hn:a.Size=n) {o:Nat} (ho:o<a.Ops.length) (s:Bool×Bool×List Int) (hs:okP n s.2.2) :
  ∃s',Ak (Ch a (o:Int)) (0,1,s.1,s.2.1,s.2.2)=some s'/\Rel n s s' (∀e,e<(nth a.Ops o).Arity.toNat -> ∀i,i<(nth a.Ops o).Table.length->Aha a n o e i s.2.2):=by
 obtain ⟨r,r3,hr,hT,hTi,h512,hn0,hn8⟩:=opX ga hn ho;refine Aqs (body:=Ch a (o:Int)) (λe s=>((e:Int),((n^e:Nat):Int),s.1,s.2.1,s.2.2)) (nth a.Ops o).Arity.toNat (λe q => ∀i,i<(nth a.Ops o).Table.length->Aha a n o e i q) (λe s he hs=> ?_) (λs hs=> ?_) s hs
 ·obtain ⟨s',e1,r1⟩:=A75 ga hn ho he s hs;refine ⟨s',?_,r1⟩;unfold Ch;dsimp only;have hp:n^e*n<=512:=by rw [<-Nat.pow_succ];exact Yh hn8 (by omega)
  have hp':((n^e:Nat):Int)*(n:Int)=((n^e*n:Nat):Int):=by rw [Int.natCast_mul]
  rw [tna0,ip0 (by omega),e1];simp only [obs0];rw [hn,hp',Ae (by omega),Ae (by omega),Nat.pow_succ];rfl
 ·unfold Ch;dsimp only;rw [tna0,in0 (by omega)]
theorem A6r (ga:Ca a) (hn:a.Size=n) (s:Bool×Bool×List Int) (hs:okP n s.2.2) :
  ∃s',Ak (Cj a) (0,s.1,s.2.1,s.2.2)=some s'/\Rel n s s' (Awr a n s.2.2):=by
 refine Aqs (body:=Cj a) (λo s=>((o:Int),s.1,s.2.1,s.2.2)) a.Ops.length (λo q => ∀e,e<(nth a.Ops o).Arity.toNat -> ∀i,i<(nth a.Ops o).Table.length->Aha a n o e i q) (λo s ho hs=> ?_) (λs hs=> ?_) s hs
 ·obtain ⟨s',e1,r1⟩:=A55 ga hn ho s hs;refine ⟨s',?_,r1⟩;unfold Cj;dsimp only;have:=ga.2.2.1;rw [ip0 (by omega),Ae (by omega),e1];simp only [obs0];rw [Ae (by omega)];rfl
 ·unfold Cj;dsimp only;rw [in0 (by omega)]
def wgt (q:List Int):Nat:=(q.map Int.toNat).sum
theorem Bdp : ∀xs ys:List Int,xs.length=ys.length->(∀i,i<ys.length->nth xs i<=nth ys i)->(∀x∈xs,0<=x)->wgt xs<=wgt ys/\(xs≠ys->wgt xs<wgt ys):=by
 intro xs
 induction xs with
 | nil=> intro ys hl _ _;have:ys=[]:=List.length_eq_zero_iff.1 hl.symm;subst this;exact ⟨Nat.le_refl _,λh=>(h rfl).elim⟩
 | cons x r ih=>
   intro ys hl h h0
   match ys,hl with
   | y::t,hl=>
     have h1:x<=y:=h 0 (by simp);have h2:=h0 x (by simp);obtain ⟨h3,h4⟩:=ih t (by simpa using hl) (λi hi=>h (i+1) (by simpa using hi)) (λz hz=>h0 z (by simp [hz]));have e1:wgt (x::r)=x.toNat+wgt r:=rfl;have e2:wgt (y::t)=y.toNat+wgt t:=rfl;refine ⟨by omega,λhne=> ?_⟩;by_cases hxy:x=y
     ·have:=h4 (λhh=>hne (by rw [hxy,hh]));omega
     ·omega
theorem Ale (ga:Ca a) (hn:a.Size=n) {p:List Int} (hp:okP n p) : ∃q,E4 a p=some (decide (¬Awr a n p),q):=by
 unfold E4;obtain ⟨t,ht,hpost⟩:=Ds (body:=Dy a) (λs=>okP n s.2.2/\((s.1=true/\((s.2.2=p/\s.2.1=false)\/(leP s.2.2 p/\s.2.2≠p/\s.2.1=true/\¬Awr a n p)))\/(s.1=false/\s.2.1=decide (¬Awr a n p))))
  (λs=>if s.1=true then 1+wgt s.2.2 else 0) (λt=>t.1=decide (¬Awr a n p)) (by
  rintro ⟨c,w,q⟩ ⟨h1,h2⟩;dsimp only at h1 h2;unfold Dy;dsimp only;rcases h2 with ⟨hc,h2⟩ | ⟨hc,h2⟩
  ·subst hc;obtain ⟨s',e1,r1,r2,r3⟩:=A6r ga hn (false,w,q) h1;dsimp only at e1 r2 r3;rw [ip0 rfl,e1];simp only [obs0];obtain ⟨c',w',q'⟩:=s';dsimp only at r1 r2 r3;rcases r3 with ⟨r3,r4⟩ | ⟨r3,r4,r5,r6⟩
   ·cases r3;refine .inl ⟨_,rfl,⟨h1,.inr ⟨rfl,?_⟩⟩,by simp;omega⟩;rcases h2 with ⟨h2,h3⟩ | ⟨_,_,h3,h4⟩
    ·subst h2;rw [h3,dfa0 (λhh=>hh r4)]
    ·rw [h3,dtr0 h4]
   ·subst r4 r5;have hlt:=(Bdp q' q r2.1 r2.2 (λz hz=>(r1.2 z hz).1)).2 r3;refine .inl ⟨_,rfl,⟨r1,.inl ⟨rfl,.inr ?_⟩⟩,by simp;exact hlt⟩;rcases h2 with ⟨h2,h3⟩ | ⟨h2,h2',h3,h4⟩
    ·subst h2;exact ⟨r2,r3,rfl,r6⟩
    ·exact ⟨r2.trans h2,λhh=>r3 (leP.anti r2 (by dsimp only at hh;rw [hh];exact h2)),rfl,h4⟩
  ·subst hc;rw [in0 (by simp)];exact .inr ⟨_,rfl,h2⟩) (s:=(true,false,p)) ⟨hp,.inl ⟨rfl,.inl ⟨rfl,rfl⟩⟩⟩
 rw [ht];exact ⟨t.2,by simp only [obs0];rw [<-hpost]⟩
theorem Akr {body:(Int×List Int)->Option ((Int×List Int) ⊕ List Int)} (p:List Int) (N:Nat) (C:Nat->Prop)
  (h : ∀(i:Nat) (q:List Int),i<N->leP q p -> ∃q',body ((i:Int),q)=some (.inl (((i+1:Nat):Int),q'))/\leP q' p/\(q'=p↔q=p/\C i))
  (he : ∀q:List Int,body ((N:Int),q)=some (.inr q)) (q:List Int) (hq:leP q p) : ∃r,Ak body (0,q)=some r/\leP r p/\(r=p↔q=p /\ ∀i,i<N->C i):=by
 have key : ∀k,k<=N -> ∀q,leP q p -> ∃r,Ak body (((N-k:Nat):Int),q)=some r/\leP r p/\(r=p↔q=p /\ ∀i,N-k<=i->i<N->C i):=by
  intro k
  induction k with
  | zero=> intro _ q hq;exact ⟨q,Cv (he q),hq,λhh=>⟨hh,λi h1 h2=>by omega⟩,λhh=>hh.1⟩
  | succ k ih=>
    intro hk q hq;obtain ⟨q',e1,h1,h2⟩:=h (N-(k+1)) q (by omega) hq;obtain ⟨r,e2,h3,h4⟩:=ih (by omega) q' h1;have e:N-(k+1)+1=N-k:=by omega
    refine ⟨r,by rw [F6 e1,e];exact e2,h3,?_⟩;rw [h4,h2];constructor
    ·rintro ⟨⟨x1,x2⟩,x3⟩;refine ⟨x1,λi h5 h6=> ?_⟩;by_cases hi:i=N-(k+1)
     ·subst hi;exact x2
     ·exact x3 i (by omega) h6
    ·rintro ⟨x1,x2⟩;exact ⟨⟨x1,x2 _ (Nat.le_refl _) (by omega)⟩,λi h5 h6=>x2 i (by omega) h6⟩
 obtain ⟨r,e,h1,h2⟩:=key N (Nat.le_refl _) q hq;rw [Nat.sub_self] at e h2;exact ⟨r,e,h1,h2.trans ⟨λhh=>⟨hh.1,λi hi=>hh.2 i (Nat.zero_le _) hi⟩,λhh=>⟨hh.1,λi _ hi=>hh.2 i hi⟩⟩⟩
theorem Bcp (ga:Ca a) (hn:a.Size=n) {p:List Int} (hp:okP n p) {o r i:Nat} (ho:o<a.Ops.length) (hr:(nth a.Ops o).Arity=r) (hi:i<(nth a.Ops o).Table.length) (q:List Int) (hq:leP q p) :
  ∃t,Ak (Cx a p (o:Int) (i:Int) (B0 n r i)) (0,q)=some t/\leP t p/\(t=p↔q=p /\ ∀k,k<r->Aha a n o (r-1-k) i p):=by
 obtain ⟨r',r3,hr',hT,hTi,h512,hn0,hn8⟩:=opX ga hn ho;obtain rfl:r=r':=by omega
 have hal:=C7 n r i;refine Akr (body:=Cx a p (o:Int) (i:Int) (B0 n r i)) p r (λk=>Aha a n o (r-1-k) i p) (λk q hk hq=> ?_) (λq=> ?_) q hq
 ·have hin:=A2x hn0 hp (i:=i) hk;have hsw:=Ys (n:=n) p r i k (by omega) hk;obtain ⟨c,hc,hc2⟩:=Apb hn0 hp (r:=r) (i:=i) (e:=r-1-k) (by omega) (by omega);have y0:=Ii hn0 r i _ (Aj (show k<(B0 n r i).length by omega));have y1:=hTi _ (Aj (show i<(nth a.Ops o).Table.length from hi));have y2:=hTi _ (Aj (show c<(nth a.Ops o).Table.length by omega));have hql:=hq.1;have hpl:=hp.1;have hv:=A5f hn8 hn ho (xs:=(B0 n r i).set k (nth p (nth (B0 n r i) k).toNat)) (by rw [List.length_set];omega) hin (by rw [List.length_set,hal];exact hT);rw [hsw,hc,tna0] at hv;have hu:=Zm (p:=q) (by omega) (X:=nth (nth a.Ops o).Table i) (Y:=nth (nth a.Ops o).Table c) (by omega) (by omega);unfold Cx;dsimp only;rw [ip0 (by omega),Au9 _ (by rw [At];omega)];simp only [obs0,tna0];rw [Ae (by omega),Ae (by omega),Ae (by omega),Ae (by omega),Ae (by omega),hv];simp only [obs0];rw [hu];simp only [obs0];rw [Ae (by omega)];refine ⟨_,rfl,(A88 _ _ _).trans hq,(A8j hq (by omega) (by omega)).trans ?_⟩;unfold Aha;rw [hc,tna0]
 ·unfold Cx;dsimp only;rw [in0 (by omega)]
theorem Bau (ga:Ca a) (hn:a.Size=n) {p:List Int} (hp:okP n p) {o r:Nat} (ho:o<a.Ops.length) (hr:(nth a.Ops o).Arity=r) (q:List Int) (hq:leP q p) :
  ∃t,Ak (Cy a p (o:Int)) (0,q)=some t/\leP t p/\(t=p↔q=p /\ ∀i,i<(nth a.Ops o).Table.length -> ∀k,k<r->Aha a n o (r-1-k) i p):=by
 obtain ⟨r',r3,hr',hT,hTi,h512,hn0,hn8⟩:=opX ga hn ho;obtain rfl:r=r':=by omega
 refine Akr (body:=Cy a p (o:Int)) p (nth a.Ops o).Table.length (λi => ∀k,k<r->Aha a n o (r-1-k) i p) (λi q hi hq=> ?_) (λq=> ?_) q hq
 ·obtain ⟨t,e1,e2,e3⟩:=Bcp ga hn hp ho hr hi q hq;refine ⟨t,?_,e2,e3⟩;unfold Cy;dsimp only;rw [Ae (by omega),tna0,ip0 (by omega),Ae (by omega),hn,hr,Ajr hn0 hn8 r3 (by omega)];simp only [obs0];rw [e1];simp only [obs0];rw [Ae (by omega)];rfl
 ·unfold Cy;dsimp only;rw [Ae (by omega),tna0,in0 (by omega)]
theorem Azh (ga:Ca a) (hn:a.Size=n) {p:List Int} (hp:okP n p) : ∃t,Fj a p=some t/\t.length=n/\(t=p↔Awr a n p):=by
 have h8:=ga.2.1;have hpl:=hp.1;unfold Fj;rw [Au9 _ (by rw [At];omega)];simp only [obs0];obtain ⟨t,e1,e2,e3⟩:=Akr (body:=Dr a p) p a.Ops.length (λo => ∀i,i<(nth a.Ops o).Table.length -> ∀k,k<(nth a.Ops o).Arity.toNat->Aha a n o ((nth a.Ops o).Arity.toNat-1-k) i p) (λo q ho hq=>by
  obtain ⟨r,r3,hr,_⟩:=opX ga hn ho;obtain ⟨t,e1,e2,e3⟩:=Bau ga hn hp ho (show (nth a.Ops o).Arity=((nth a.Ops o).Arity.toNat:Nat) by omega) q hq;refine ⟨t,?_,e2,e3⟩;unfold Dr;dsimp only;have:=ga.2.2.1;rw [ip0 (by omega),e1];simp only [obs0];rw [Ae (by omega)];rfl) (λq=>by
  unfold Dr;dsimp only;rw [in0 (by omega)]) p (leP.refl p)
 rw [e1];refine ⟨t,rfl,by rw [e2.1];exact hpl,e3.trans ?_⟩;constructor
 ·rintro ⟨_,h⟩ o ho e he i hi;have:=h o ho i hi ((nth a.Ops o).Arity.toNat-1-e) (by omega);rw [show (nth a.Ops o).Arity.toNat-1-((nth a.Ops o).Arity.toNat-1-e)=e by omega] at this;exact this
 ·intro h;exact ⟨rfl,λo ho i hi k hk=>h o ho _ (by omega) i hi⟩
def Ou (a:SAlgebra) (n:Nat) (p:List Int):Prop:=Kh n p/\Awr a n p
theorem Aql (ga:Ca a) (hn:a.Size=n) {p:List Int} (hl:p.length<=1048576):Gd a p=some (decide (Ou a n p)):=by
 unfold Gd;rw [hn,At9 hl];simp only [obs0];by_cases h:Kh n p
 ·rw [dtr0 h,ip0 rfl];unfold Fh;rw [Ae (by rw [At];show 0+p.length<=_;omega)];simp only [obs0];obtain ⟨q,e⟩:=Ale ga hn (p:=p) ⟨h.1,h.inS⟩;rw [show Aw Int++p=p from rfl,e];simp only [obs0];by_cases hk:Awr a n p
  ·rw [dfa0 (λhh=>hh hk),dtr0 (show Ou a n p from ⟨h,hk⟩)];rfl
  ·rw [dtr0 hk,dfa0 (λhh:Ou a n p=>hk hh.2)];rfl
 ·rw [dfa0 h,in0 (by simp),dfa0 (λhh:Ou a n p=>h hh.1)]
theorem Ber (ga:Ca a) (hn:a.Size=n) {p:List Int} (hl:p.length<=1048576):R6 a p=some (decide (Ou a n p)):=by
 unfold R6;rw [hn,Ats hl];simp only [obs0];by_cases h:Kh n p
 ·rw [dtr0 h,ip0 rfl];obtain ⟨q,e,e2,e3⟩:=Azh ga hn (p:=p) ⟨h.1,h.inS⟩;have:=h.1;rw [e];simp only [obs0];rw [Apy (by rw [At];omega)];simp only [obs0];exact congrArg some (decide_eq_decide.2 (e3.trans ⟨λhh=>⟨h,hh⟩,λhh=>hh.2⟩))
 ·rw [dfa0 h,in0 (by simp),dfa0 (λhh:Ou a n p=>h hh.1)]
end
theorem Af5 {n:Nat} (_hn:0<n) : ∀r k,k<n^r->Pv n (B0 n r k)=(k:Int):=by
 intro r
 induction r with
 | zero=>intro k hk;simp at hk;subst hk;rfl
 | succ r ih=> intro k hk;have hd:k/n<n^r:=Nat.div_lt_of_lt_mul (by rw [Nat.mul_comm,<-Nat.pow_succ];exact hk);simp only [B0];rw [Ny,ih _ hd,<-Int.natCast_mul,<-Int.natCast_add,Nat.mul_comm,Nat.div_add_mod]
theorem Y8 {n:Nat} (hn:0<n) : ∀r (xs:List Int),xs.length=r->Bc xs n->B0 n r (Pv n xs).toNat=xs:=by
 intro r
 induction r with
 | zero=>intro xs hl _;rw [List.length_eq_zero_iff.1 hl];rfl
 | succ r ih=>
   intro xs hl hx;obtain ⟨ys,y,rfl⟩ : ∃ys y,xs=ys++[y]:=⟨xs.take r,nth xs r,by rw [<-C9 (by omega),List.take_of_length_le (by omega)]⟩
   have hy:=hx y (by simp);have hys:Bc ys n:=λz hz=>hx z (by simp [hz])
   have hyl:ys.length=r:=by simpa using hl
   obtain ⟨c,h1,_⟩:=Ajg r ys hyl hys;obtain ⟨d,rfl⟩:=Int.eq_ofNat_of_zero_le hy.1;have hd:d<n:=by omega
   have e:(Pv n (ys++[(d:Int)])).toNat=c*n+d:=by rw [Ny,h1,<-Int.natCast_mul,<-Int.natCast_add,tna0]
   rw [e];simp only [B0];rw [show (c*n+d)/n=c by rw [Nat.mul_comm,Nat.mul_add_div hn,Nat.div_eq_of_lt hd];omega,show (c*n+d)%n=d by rw [Nat.mul_comm,Nat.mul_add_mod,Nat.mod_eq_of_lt hd]];have:=ih ys hyl hys;rw [h1,tna0] at this;rw [this]
def hT (n r:Nat) (y:Nat->Int):Int:=Pv n ((List.range r).map y)
theorem Aqi {n r:Nat} {y z:Nat->Int} (h : ∀i,i<r->y i=z i):hT n r y=hT n r z:=by unfold hT;congr 1;exact List.map_congr_left λi hi=>h i (List.mem_range.1 hi)
theorem Bcv {n r:Nat} {y:Nat->Int} (h : ∀i,i<r->0<=y i/\y i<n):Bc ((List.range r).map y) n:=by intro v hv;obtain ⟨i,hi,rfl⟩:=List.mem_map.1 hv;exact h i (List.mem_range.1 hi)
theorem Ay9 {n r:Nat} {y:Nat->Int} (hn:n<=8) (hr:r<=3) (h : ∀i,i<r->0<=y i/\y i<n) : ∃c:Nat,hT n r y=(c:Int)/\c<n^r/\c<512:=by obtain ⟨c,h1,h2,h3⟩:=Na hn (xs:=(List.range r).map y) (by simpa using hr) (Bcv h);exact ⟨c,h1,by simpa using h2,h3⟩
structure OpR (n r:Nat) (f:SOp):Prop where
 ar:f.Arity=r
 le:r<=2
 len:f.Table.length=n^r
 fin:Bc f.Table n
theorem OpR.at {n r:Nat} {f:SOp} (h:OpR n r f) (hn:n<=8) {y:Nat->Int} (hy : ∀i,i<r->0<=y i/\y i<n):(∃c:Nat,hT n r y=(c:Int)/\c<f.Table.length/\c<512)/\0<=nth f.Table (hT n r y).toNat/\nth f.Table (hT n r y).toNat<n:=by obtain ⟨c,h1,h2,h3⟩:=Ay9 hn (by have:=h.le;omega) hy;rw [<-h.len] at h2;exact ⟨⟨c,h1,h2,h3⟩,by rw [h1,tna0];exact h.fin _ (Aj h2)⟩
def A02 (n:Int) (f g:SOp):Prop:=1<=n/\n<=4/\A0k n.toNat f/\A0k n.toNat g/\f.Arity<=2/\g.Arity<=2
theorem A02.symm {n:Int} {f g:SOp} (h:A02 n f g):A02 n g f:=⟨h.1,h.2.1,h.2.2.2.1,h.2.2.1,h.2.2.2.2.2,h.2.2.2.2.1⟩
theorem A02.ops {n:Int} {f g:SOp} (h:A02 n f g):OpR n.toNat f.Arity.toNat f/\OpR n.toNat g.Arity.toNat g:=by obtain ⟨h1,h2,h3,h4,h5,h6⟩:=h;obtain ⟨a1,a2,a3,a4⟩:=h3;obtain ⟨b1,b2,b3,b4⟩:=h4;exact ⟨⟨by omega,by omega,a3,a4⟩,⟨by omega,by omega,b3,b4⟩⟩
structure OpQ (n r:Nat) (f:SOp):Prop where
 ar:f.Arity=r
 le:r<=3
 len:f.Table.length=n^r
 fin:Bc f.Table n
theorem OpQ.at {n r:Nat} {f:SOp} (h:OpQ n r f) (hn:n<=8) {y:Nat->Int} (hy : ∀i,i<r->0<=y i/\y i<n):(∃c:Nat,hT n r y=(c:Int)/\c<f.Table.length/\c<512)/\0<=nth f.Table (hT n r y).toNat/\nth f.Table (hT n r y).toNat<n:=by obtain ⟨c,h1,h2,h3⟩:=Ay9 hn (by have:=h.le;omega) hy;rw [<-h.len] at h2;exact ⟨⟨c,h1,h2,h3⟩,by rw [h1,tna0];exact h.fin _ (Aj h2)⟩
def Be5 (p:List Int) (n r:Nat) (f:SOp):Prop := ∀x y:Nat->Int,(∀i,i<r->0<=x i/\x i<n)->(∀i,i<r->0<=y i/\y i<n)->(∀i,i<r->nth p (x i).toNat=nth p (y i).toNat)->nth p (nth f.Table (hT n r x).toNat).toNat=nth p (nth f.Table (hT n r y).toNat).toNat
theorem Ai9 {xs:List Int} {m:Nat} (h:xs.length=m):(List.range m).map (λj=>nth xs j)=xs:=by
 refine List.ext_getElem (by simp [h]) λi h1 h2=> ?_
 simp only [List.getElem_map,List.getElem_range];rw [Ce h2]
section
variable {n r:Nat} {f:SOp} {p:List Int}
theorem Ain (hp:Kh n p) {v:Int} (hv:0<=v/\v<n):0<=nth p v.toNat/\nth p v.toNat<n/\nth p (nth p v.toNat).toNat=nth p v.toNat:=by obtain ⟨q1,q2,q3⟩:=hp.2 v.toNat (by omega);exact ⟨q1,by omega,q3⟩
theorem A5j (h1:1<=n) (_hp:Kh n p) {x:Nat->Int} (hx : ∀i,i<r->0<=x i/\x i<n) {m:Nat} (hm:m<r) {c:Nat} (hc:hT n r x=(c:Int)) (hcn:c<n^r):hT n r (λi=>if i=m then nth p (x m).toNat else x i)=Ax3 n p (r-1-m) c:=by
 have e:=Y8 (by omega) r ((List.range r).map x) (by simp) (Bcv hx);have hc':Pv n ((List.range r).map x)=(c:Int):=hc;rw [hc',tna0] at e;have hs:=Ys p r c m hcn hm;rw [<-hs,e];unfold hT;congr 1;refine Fi (by simp) λi hi=> ?_
 have hi:i<r:=by simpa using hi
 have el : ∀(y:Nat->Int) j,j<r->nth ((List.range r).map y) j=y j:=λy j hj=>by rw [Bk _ (by simpa using hj),F0 hj]
 rw [Jd _ _ _ _ (by simpa using hi),el _ i hi,el x i hi,el x m hm];by_cases h:i=m
 ·rw [ip0 h,ip0 h.symm]
 ·rw [in0 h,in0 (λhh=>h hh.symm)]
theorem A7t (h1:1<=n) (h8:n<=8) (hp:Kh n p) (hf:OpQ n r f):(∀e,e<r -> ∀i,i<f.Table.length->nth p (nth f.Table i).toNat=nth p (nth f.Table (Ax3 n p e i).toNat).toNat)↔Be5 p n r f:=by
 constructor
 ·intro h x y hx hy hxy;have key : ∀x:Nat->Int,(∀i,i<r->0<=x i/\x i<n) -> ∀m,m<=r->nth p (nth f.Table (hT n r x).toNat).toNat=nth p (nth f.Table (hT n r λi=>if i<m then nth p (x i).toNat else x i).toNat).toNat:=by
   intro x hx m
   induction m with
   | zero=>intro _;rw [Aqi (z:=x) λi _=>in0 (by omega)]
   | succ m ih=>
     intro hm;rw [ih (by omega)];have hz : ∀i,i<r->0<=(if i<m then nth p (x i).toNat else x i)/\(if i<m then nth p (x i).toNat else x i)<n:=λi hi=>by
      split
      ·have:=Ain hp (hx i hi);omega
      ·exact hx i hi
     obtain ⟨⟨c,c1,c2,_⟩,_⟩:=hf.at h8 hz;have hs:=A5j (m:=m) h1 hp hz (by omega) c1 (by rw [<-hf.len];exact c2);rw [c1,tna0,h (r-1-m) (by omega) c c2,<-hs];congr 4;refine Aqi λi _=> ?_
     by_cases him:i=m
     ·subst him;rw [ip0 rfl,in0 (by omega),ip0 (by omega)]
     ·rw [in0 him];by_cases hl:i<m
      ·rw [ip0 hl,ip0 (by omega)]
      ·rw [in0 hl,in0 (by omega)]
  rw [key x hx r (Nat.le_refl _),key y hy r (Nat.le_refl _)];congr 4;exact Aqi λi hi=>by rw [ip0 hi,ip0 hi,hxy i hi]
 ·intro h e he i hi;rw [hf.len] at hi;have hx : ∀j,j<r->0<=nth (B0 n r i) j/\nth (B0 n r i) j<n:=λj hj=>Ii (by omega) r i _ (Aj (by rw [C7];exact hj))
  have e0:hT n r (λj=>nth (B0 n r i) j)=(i:Int):=by unfold hT;rw [Ai9 (C7 n r i),Af5 (by omega) r i hi]
  have hs:=A5j (m:=r-1-e) h1 hp hx (by omega) e0 hi;rw [show r-1-(r-1-e)=e by omega] at hs;have:=h (λj=>nth (B0 n r i) j) (λj=>if j=r-1-e then nth p (nth (B0 n r i) (r-1-e)).toNat else nth (B0 n r i) j) hx (λj hj=>by
   split
   ·have:=Ain hp (hx (r-1-e) (by omega));omega
   ·exact hx j hj) (λj hj=>by
   split
   ·rename_i hje;subst hje;exact (Ain hp (hx _ hj)).2.2.symm
   ·rfl)
  rw [hs,e0,tna0] at this;exact this
end
section
variable {a:SAlgebra} {n:Nat} {p:List Int}
theorem Bea (ga:Ca a) (hn:a.Size=n) {o:Nat} (ho:o<a.Ops.length):OpQ n (nth a.Ops o).Arity.toNat (nth a.Ops o)/\A0k n (nth a.Ops o):=by
 obtain ⟨r,r1,r2,r3,r4,_⟩:=opX ga hn ho;have e:(nth a.Ops o).Arity.toNat=r:=by omega
 have hn':a.Size.toNat=n:=by omega
 refine ⟨⟨by omega,by omega,by rw [e];exact r3,r4⟩,?_⟩;have:=ga.2.2.2 _ (Aj ho)
 rwa [hn'] at this
end
section
variable {a b:SAlgebra} {n m:Nat}
theorem Gt (h:Pair a b n m) {f:List Int}:Kp a b f↔f.length=n/\Bc f m /\ ∀i,i<a.Ops.length -> ∀k,k<(nth a.Ops i).Table.length->nth f (nth (nth a.Ops i).Table k).toNat=nth (nth b.Ops i).Table (I9 n m f (nth a.Ops i).Arity.toNat k).toNat:=by
 have ha:a.Size.toNat=n:=by have:=h.sa;omega
 have hb:b.Size.toNat=m:=by have:=h.sb;omega
 constructor
 ·intro hf;have h1:=hf.2.1;have h2:=hf.2.2;rw [ha,hb] at h2;refine ⟨by have:=h1.1;have:=h.sa;omega,by have:=h1.2;rw [h.sb] at this;exact this,λi hi k hk=> ?_⟩;exact Classical.not_not.1 λhx=>h2 ⟨i,hi,k,hk,hx⟩
 ·rintro ⟨h1,h2,h3⟩;refine ⟨h.al,⟨by have:=h.sa;omega,by rw [h.sb];exact h2⟩,?_⟩;rw [ha,hb];rintro ⟨i,hi,k,hk,hx⟩;exact hx (h3 i hi k hk)
end
theorem Kj {a b:SAlgebra} {n m:Nat} (al:Tp a b) (sa:a.Size=n) (sb:b.Size=m):Pair a b n m:=⟨al,sa,sb⟩
theorem Dw {f g:List Int} {x:Nat} (hx:x<f.length):nth (Am f g) x=nth g (nth f x).toNat:=Bk _ hx
theorem Au1 {n:Nat} (hn:0<n) : ∀r k,k<n^r->I9 n n (idL n) r k=(k:Int):=by
 intro r
 induction r with
 | zero=>intro k hk;simp at hk;subst hk;rfl
 | succ r ih=> intro k hk;have hd:k/n<n^r:=Nat.div_lt_of_lt_mul (by rw [Nat.mul_comm,<-Nat.pow_succ];exact hk);simp only [I9];rw [ih _ hd,Aqp (Nat.mod_lt k hn),<-Int.natCast_mul,<-Int.natCast_add,Nat.mul_comm,Nat.div_add_mod]
theorem Abm {n m:Nat} (hn:0<n) {f:List Int} (hf:f.length=n) (hfx:Bc f m) (r k:Nat) : ∃c:Nat,I9 n m f r k=(c:Int)/\c<m^r:=by have:=Ajg (m:=m) r ((B0 n r k).map λx=>nth f x.toNat) (by rw [List.length_map,C7]) (Qu hn hf hfx r k);rw [Hs] at this;exact this
section
variable {b c d:SAlgebra} {f g:List Int}
theorem Apq {nb nc nd:Nat} (sb:b.Size=nb) (sc:c.Size=nc) (sd:d.Size=nd) (h1:Kp b c f) (h2:Kp b d g) (onto : ∀y,y<nc -> ∃x,x<nb/\nth f x=(y:Int)) (ker : ∀x y,x<nb->y<nb->nth f x=nth f y->nth g x=nth g y) :
  ∃e,Kp c d e /\ ∀x,x<nb->nth e (nth f x).toNat=nth g x:=by
 have P1:=Kj h1.1 sb sc;have P2:=Kj h2.1 sb sd;obtain ⟨hb0,hb8,hc0,hc8⟩:=P1.pos;obtain ⟨_,_,hd0,hd8⟩:=P2.pos;obtain ⟨f1,f2,f3⟩:=(Gt P1).1 h1;obtain ⟨g1,g2,g3⟩:=(Gt P2).1 h2;obtain ⟨S,hS1,hS2,hS3⟩ : ∃S:List Int,S.length=nc/\Bc S nb /\ ∀y,y<nc->nth f (nth S y).toNat=(y:Int):=by
  refine ⟨(List.range nc).map λy=>if hx : ∃x,x<nb/\nth f x=((y:Nat):Int) then ((Classical.choose hx:Nat):Int) else 0,by simp,λz hz=> ?_,λy hy=> ?_⟩
  ·obtain ⟨y,hy,rfl⟩:=List.mem_map.1 hz;have hx:=onto y (List.mem_range.1 hy);simp only [dif_pos hx];have:=(Classical.choose_spec hx).1;omega
  ·have hx:=onto y hy;rw [Bk _ (by simpa using hy),F0 hy,dif_pos hx,tna0];exact (Classical.choose_spec hx).2
 have hSf:Am S f=idL nc:=by
  refine Fi (by simp [Am,idL,hS1]) λy hy=> ?_
  have hy:y<nc:=by simpa [Am,hS1] using hy
  rw [Dw (by omega),hS3 y hy,Aqp hy]
 have key : ∀x,x<nb->nth (Am S g) (nth f x).toNat=nth g x:=by intro x hx;have hv:=f2 _ (Aj (show x<f.length by omega));have hs:=hS2 _ (Aj (show (nth f x).toNat<S.length by omega));rw [Dw (by omega)];refine ker _ _ (by omega) hx ?_;rw [hS3 _ (by omega)];omega
 refine ⟨Am S g,?_,key⟩;have al:Tp c d:=⟨h1.1.2.1,h2.1.2.1,h1.1.2.2.symm.trans h2.1.2.2⟩
 refine (Gt (Kj al sc sd)).2 ⟨by simp [Am,hS1],?_,λi hi k hk=> ?_⟩
 ·intro z hz;obtain ⟨y,hy,rfl⟩:=List.mem_map.1 hz;have:=hS2 y hy;exact g2 _ (Aj (by omega))
 ·have hib:i<b.Ops.length:=by
   have:=congrArg List.length h1.1.2.2;simp [Fn] at this;omega
  obtain ⟨_,r,hr,e1,l1,l2,t1,t2,_⟩:=P1.op hib;have ec:(nth c.Ops i).Arity.toNat=r:=by have e3:nth (Fn b) i=(nth b.Ops i).Arity:=Bk _ hib;have e4:nth (Fn c) i=(nth c.Ops i).Arity:=Bk _ hi;rw [<-e4,<-h1.1.2.2,e3,e1];rfl
  have eb:(nth b.Ops i).Arity.toNat=r:=by omega
  rw [ec];rw [l2] at hk;obtain ⟨q,hq1,hq2⟩:=Aak (g:=f) (l:=nc) hc0 hS1 hS2 hb0 r k;obtain ⟨q',hq1',hq3⟩:=Aak (g:=g) (l:=nd) hc0 hS1 hS2 hb0 r k;rw [hq1] at hq1';have:=Int.ofNat.inj hq1';subst this;obtain ⟨q'',hq1'',hql⟩:=Abm hc0 hS1 hS2 r k;rw [hq1] at hq1'';have:=Int.ofNat.inj hq1'';subst this;rw [hSf,Au1 hc0 r k hk] at hq2;have k1:=f3 i hib q (by rw [l1];exact hql);rw [eb,<-hq2,tna0] at k1;have k2:=g3 i hib q (by rw [l1];exact hql);rw [eb,<-hq3] at k2;have hv:=t1 _ (Aj (show q<(nth b.Ops i).Table.length by rw [l1];exact hql));rw [<-k1,key _ (by omega),k2]
theorem A71 {nb nd nq:Nat} {q:SAlgebra} {io h:List Int} (sb:b.Size=nb) (sd:d.Size=nd) (sq:q.Size=nq) (h1:Kp d q io) (hu:uniq io) (h2:Kp b q h) (hg:g.length=nb) (hgx:Bc g nd) (he : ∀x,x<nb->nth io (nth g x).toNat=nth h x):Kp b d g:=by
 have P1:=Kj h1.1 sd sq;have P2:=Kj h2.1 sb sq;obtain ⟨hd0,hd8,hq0,hq8⟩:=P1.pos;obtain ⟨hb0,hb8,_,_⟩:=P2.pos;obtain ⟨i1,i2,i3⟩:=(Gt P1).1 h1;obtain ⟨g1,g2,g3⟩:=(Gt P2).1 h2;have al:Tp b d:=⟨h2.1.1,h1.1.1,h2.1.2.2.trans h1.1.2.2.symm⟩
 have hc:Am g io=h:=by
  refine Fi (by simp [Am,hg,g1]) λx hx=> ?_
  have hx:x<nb:=by simpa [Am,hg] using hx
  rw [Dw (by omega),he x hx]
 refine (Gt (Kj al sb sd)).2 ⟨hg,hgx,λi hi k hk=> ?_⟩;have hid:i<d.Ops.length:=by have:=congrArg List.length (h2.1.2.2.trans h1.1.2.2.symm);simp [Fn] at this;omega
 obtain ⟨_,r,hr,e1,l1,l2,t1,t2,_⟩:=P2.op hi;obtain ⟨_,r',hr',e1',l1',l2',t1',t2',_⟩:=P1.op hid;have eb:(nth b.Ops i).Arity.toNat=r:=by omega
 have ed:(nth d.Ops i).Arity.toNat=r:=by have e3:nth (Fn b) i=(nth b.Ops i).Arity:=Bk _ hi;have e4:nth (Fn d) i=(nth d.Ops i).Arity:=Bk _ hid;rw [<-e4,<-h2.1.2.2.trans h1.1.2.2.symm,e3,e1];rfl
 have err:r'=r:=by omega
 subst err;rw [eb];obtain ⟨z,hz1,hz2⟩:=Aak (g:=io) (l:=nq) hb0 hg hgx hd0 r' k;obtain ⟨z',hz1',hzl⟩:=Abm hb0 hg hgx r' k;rw [hz1] at hz1';have:=Int.ofNat.inj hz1';subst this;have hv:=t1 _ (Aj hk);have k1:=g3 i hi k hk;rw [eb,<-hc,hz2] at k1;have k2:=i3 i hid z (by rw [l1'];exact hzl);rw [ed] at k2;have k3:=he (nth (nth b.Ops i).Table k).toNat (by omega);rw [<-hc] at k3;rw [hz1,tna0];have w1:=hgx _ (Aj (show (nth (nth b.Ops i).Table k).toNat<g.length by omega));have w2:=t1' _ (Aj (show z<(nth d.Ops i).Table.length by rw [l1'];exact hzl));have hinj:=(λ{x y:Nat} (hx:x<nd) (hy:y<nd) (e:nth io x=nth io y)=>(show x=y from by
  rcases Nat.lt_trichotomy x y with h0 | h0 | h0
  ·exact absurd (Cw.2 ⟨x,by simp;omega,by rw [Ce (by simp;omega),List.getElem_take,<-Ce (by omega)];exact e⟩) (hu y (by omega))
  ·exact h0
  ·exact absurd (Cw.2 ⟨y,by simp;omega,by rw [Ce (by simp;omega),List.getElem_take,<-Ce (by omega)];exact e.symm⟩) (hu x (by omega))))
 have:=hinj (show (nth g (nth (nth b.Ops i).Table k).toNat).toNat<nd by omega) (show (nth (nth d.Ops i).Table z).toNat<nd by omega) (by rw [k3,k1,<-k2]);omega
end
def plc (n:Nat) (sub:List Int):Nat->List Int
 | 0=>List.replicate n 0
 | i+1=>(plc n sub i).set (nth sub i).toNat (i:Int)
theorem Aw0 (n:Nat) (sub:List Int) : ∀i,(plc n sub i).length=n:=by
 intro i
 induction i with
 | zero=>simp [plc]
 | succ i ih=>simp [plc,ih]
theorem A22 {n:Nat} {sub:List Int} (hx:Bc sub n) (hr:Mk sub) : ∀i,i<=sub.length -> ∀j,j<i->nth (plc n sub i) (nth sub j).toNat=(j:Int):=by
 intro i
 induction i with
 | zero=>intro _ j hj;omega
 | succ i ih=>
   intro hi j hj;have v1:=hx _ (Aj (show j<sub.length by omega));have v2:=hx _ (Aj (show i<sub.length by omega));simp only [plc];rw [Jd _ _ _ _ (by rw [Aw0];omega)];by_cases e:j=i
   ·subst e;rw [ip0 rfl]
   ·have:=Ir hr (show j<i by omega) (by omega);rw [in0 (by omega)];exact ih (by omega) j (by omega)
def Mc (n:Nat) (sub:List Int) (o:SOp):SOp:=⟨o.Arity,(List.range (sub.length^o.Arity.toNat)).map λk=>nth (plc n sub sub.length) (nth o.Table (I9 sub.length n sub o.Arity.toNat k).toNat).toNat⟩
def Sv (a:SAlgebra) (n:Nat) (sub:List Int):SAlgebra:=⟨sub.length,a.Ops.map (Mc n sub)⟩
theorem A2y {xs:List Int} (h:Mk xs):uniq xs:=by
 refine Sc (n:=xs.length) rfl λx y hx hy e=> ?_
 rcases Nat.lt_trichotomy x y with h1 | h1 | h1
 ·have:=Ir h h1 hy;omega
 ·exact h1
 ·have:=Ir h h1 hx;omega
section
variable {a:SAlgebra} {n:Nat}
theorem Akd (h:ReadyA a n) {sub:List Int} (hs:Ei a n sub) (h0:sub≠[]):Ca (Sv a n sub)/\Kp (Sv a n sub) a sub/\uniq sub/\sub.length<=n:=by
 obtain ⟨hx,hr,hcl⟩:=(Lb h).1 hs;have hk0:0<sub.length:=List.length_pos_iff.2 h0;have hu:=A2y hr;have hlen:sub.length<=n:=Ahd hs;have hn8:=h.le;have hnn:=h.nat;have hent : ∀i,i<a.Ops.length -> ∀k,k<sub.length^(nth a.Ops i).Arity.toNat -> ∃j,j<sub.length/\nth (nth a.Ops i).Table (I9 sub.length n sub (nth a.Ops i).Arity.toNat k).toNat=nth sub j:=by
  intro i hi k hk;obtain ⟨r,e1,hr3,l1,t1,_,hargs⟩:=h.op hi;have er:(nth a.Ops i).Arity.toNat=r:=by omega
  rw [er] at hk ⊢;obtain ⟨c,hc1,hc2⟩:=Abm hk0 rfl hx r k;rw [hc1,tna0];have hin:=hcl i hi c (by rw [l1];exact hc2) ((hargs c _).2 (λx hxm=>by
   have e3:B0 n r c=(B0 sub.length r k).map λx=>nth sub x.toNat:=by have:=Y8 h.pos r ((B0 sub.length r k).map λx=>nth sub x.toNat) (by rw [List.length_map,C7]) (Qu hk0 rfl hx r k);rw [Hs,hc1,tna0] at this;exact this
   rw [e3] at hxm;obtain ⟨y,hy,rfl⟩:=List.mem_map.1 hxm;have hy2:=Ii hk0 r k y hy;have hv:=hx _ (Aj (show y.toNat<sub.length by omega));refine dtr0 ?_;rw [show (((nth sub y.toNat).toNat:Nat):Int)=nth sub y.toNat by omega];exact Aj (by omega)))
  have hm:=of_decide_eq_true hin;obtain ⟨j,hj,ej⟩:=Cw.1 hm;refine ⟨j,hj,?_⟩;have hv:=t1 _ (Aj (show c<(nth a.Ops i).Table.length by rw [l1];exact hc2));rw [ej];unfold Yt;omega
 have hgood:Ca (Sv a n sub):=by
  refine ⟨by show (1:Int)<=(sub.length:Int);omega,by show (sub.length:Int)<=8;omega,by simpa [Sv] using h.good.2.2.1,λo ho=> ?_⟩;obtain ⟨g,hg,rfl⟩:=List.mem_map.1 ho;obtain ⟨g1,g2,g3,g4⟩:=h.good.2.2.2 g hg;refine ⟨g1,g2,?_,?_⟩
  ·show ((List.range _).map _).length=((sub.length:Int)).toNat^_;simp [Mc]
  ·intro z hz;obtain ⟨k,hk,rfl⟩:=List.mem_map.1 hz;obtain ⟨i,hi,rfl⟩:=Cw.1 hg;obtain ⟨j,hj,ej⟩:=hent i hi k (List.mem_range.1 hk);rw [ej,A22 hx hr _ (Nat.le_refl _) j hj];show 0<=(j:Int)/\(j:Int)<(((sub.length:Int)).toNat:Nat);omega
 have al:Tp (Sv a n sub) a:=⟨hgood,h.good,by unfold Fn Sv;simp only [List.map_map];rfl⟩
 refine ⟨hgood,(Gt (Kj al (n:=sub.length) (m:=n) rfl h.sz)).2 ⟨rfl,hx,λi hi k hk=> ?_⟩,hu,hlen⟩;have hi':i<a.Ops.length:=by simpa [Sv] using hi
 have eo:nth (Sv a n sub).Ops i=Mc n sub (nth a.Ops i):=Bk _ hi';rw [eo] at hk ⊢;have hk':k<sub.length^(nth a.Ops i).Arity.toNat:=by simpa [Mc] using hk
 obtain ⟨j,hj,ej⟩:=hent i hi' k hk';show nth sub (nth ((List.range (sub.length^(nth a.Ops i).Arity.toNat)).map λk=>nth (plc n sub sub.length) (nth (nth a.Ops i).Table (I9 sub.length n sub (nth a.Ops i).Arity.toNat k).toNat).toNat) k).toNat=nth (nth a.Ops i).Table (I9 sub.length n sub (nth a.Ops i).Arity.toNat k).toNat;rw [Bk _ (by simpa using hk'),F0 hk',ej,A22 hx hr _ (Nat.le_refl _) j hj,tna0]
def lst (n:Nat) (p:List Int):List Int:=Ar n λx=>decide (nth p x=(x:Int))
def B6 (n:Nat) (p:List Int):List Int:=(List.range n).map λx=>(((Ar (nth p x).toNat λz=>decide (nth p z=(z:Int))).length:Nat):Int)
theorem A70 {q:Nat->Bool} : ∀ {n z:Nat},z<n->q z=true->nth (Ar n q) (Ar z q).length=(z:Int)/\(Ar z q).length<(Ar n q).length:=by
 intro n
 induction n with
 | zero=>intro z hz;omega
 | succ n ih=>
   intro z hz hq;rw [De];by_cases e:z=n
   ·subst e;rw [ip0 hq];exact ⟨V4,by simp⟩
   ·obtain ⟨h1,h2⟩:=ih (show z<n by omega) hq;split
    ·rw [Hh h2];exact ⟨h1,by simp;omega⟩
    ·exact ⟨h1,h2⟩
theorem Bbv {p:List Int} {x:Int}:x∈lst n p ↔ ∃i:Nat,i<n/\nth p i=(i:Int)/\x=i:=by unfold lst;rw [Da];exact ⟨λ⟨i,h1,h2,h3⟩=>⟨i,h1,of_decide_eq_true h2,h3⟩,λ⟨i,h1,h2,h3⟩=>⟨i,h1,dtr0 h2,h3⟩⟩
theorem Xz {p:List Int} (hp:Kh n p) {x:Nat} (hx:x<n) : ∃j:Nat,nth (B6 n p) x=(j:Int)/\j<(lst n p).length/\nth (lst n p) j=nth p x:=by
 obtain ⟨h1,h2,h3⟩:=hp.2 x hx;unfold B6;rw [Bk _ (by simpa using hx),F0 hx];have hz:(nth p x).toNat<n:=by omega
 have hq:decide (nth p (nth p x).toNat=(((nth p x).toNat:Nat):Int))=true:=dtr0 (by rw [h3];omega);obtain ⟨k1,k2⟩:=A70 (q:=λz=>decide (nth p z=(z:Int))) hz hq;exact ⟨_,rfl,k2,by unfold lst;rw [k1];omega⟩
theorem A4r {p:List Int} {i j:Nat} (hi:i<(lst n p).length) (hj:j<(lst n p).length) (e:nth (lst n p) i=nth (lst n p) j):i=j:=by
 have hr:Mk (lst n p):=Ey _ _;rcases Nat.lt_trichotomy i j with h1 | h1 | h1
 ·have:=Ir hr h1 hj;omega
 ·exact h1
 ·have:=Ir hr h1 hi;omega
theorem Apa {p:List Int} {j:Nat} (hj:j<(lst n p).length) : ∃x:Nat,x<n/\nth (lst n p) j=(x:Int)/\nth p x=(x:Int):=by obtain ⟨i,h1,h2,h3⟩:=Bbv.1 (Aj hj);exact ⟨i,h1,h3,h2⟩
theorem Asi {p:List Int} (hp:Kh n p) {j:Nat} (hj:j<(lst n p).length):nth (B6 n p) (nth (lst n p) j).toNat=(j:Int):=by obtain ⟨x,hx,e1,e2⟩:=Apa hj;obtain ⟨i,h1,h2,h3⟩:=Xz hp hx;rw [e1,tna0,h1];have:=A4r h2 hj (by rw [h3,e2,e1]);omega
theorem Aap {p:List Int} (hp:Kh n p) {x y:Nat} (hx:x<n) (hy:y<n):nth (B6 n p) x=nth (B6 n p) y↔nth p x=nth p y:=by
 obtain ⟨i,h1,h2,h3⟩:=Xz hp hx;obtain ⟨j,k1,k2,k3⟩:=Xz hp hy;rw [h1,k1];constructor
 ·intro e;have:i=j:=by omega
  subst this;rw [<-h3,<-k3]
 ·intro e;have:=A4r h2 k2 (by rw [h3,k3,e]);omega
theorem Aev {p:List Int} (hp:Kh n p):(B6 n p).length=n/\Bc (B6 n p) (lst n p).length:=by refine ⟨by simp [B6],λz hz=> ?_⟩;obtain ⟨x,hx,rfl⟩:=Cw.1 hz;obtain ⟨j,h1,h2,_⟩:=Xz hp (show x<n by simpa [B6] using hx);omega
def Se (n:Nat) (p:List Int) (o:SOp):SOp:=⟨o.Arity,(List.range ((lst n p).length^o.Arity.toNat)).map λk=>nth (B6 n p) (nth o.Table (I9 (lst n p).length n (lst n p) o.Arity.toNat k).toNat).toNat⟩
def Ts (a:SAlgebra) (n:Nat) (p:List Int):SAlgebra:=⟨(lst n p).length,a.Ops.map (Se n p)⟩
theorem Awi {p:List Int} (hp:Kh n p) (hn:0<n):0<(lst n p).length:=by obtain ⟨j,_,h2,_⟩:=Xz hp hn;omega
theorem A39 {p:List Int}:Bc (lst n p) n:=Aed _ _
theorem A9v (ga:Ca a) (hn:a.Size=n) {p:List Int} (hc:Ou a n p) {i:Nat} (hi:i<a.Ops.length) {k:Nat} (hk:k<(nth a.Ops i).Table.length):nth p (nth (nth a.Ops i).Table k).toNat=nth p (nth (nth a.Ops i).Table (I9 n n p (nth a.Ops i).Arity.toNat k).toNat).toNat:=by
 obtain ⟨hO,_⟩:=Bea ga hn hi;have h1:1<=n:=by have:=ga.1;omega
 have h8:n<=8:=by have:=ga.2.1;omega
 have hTc:=(A7t h1 h8 hc.1 hO).1 (λe he k hk=>hc.2 i hi e he k hk);generalize (nth a.Ops i).Arity.toNat=r at hO hTc ⊢;rw [hO.len] at hk;have hx : ∀j,j<r->0<=nth (B0 n r k) j/\nth (B0 n r k) j<n:=λj hj=>Ii (by omega) r k _ (Aj (by rw [C7];exact hj))
 have e0:hT n r (λj=>nth (B0 n r k) j)=(k:Int):=by unfold hT;rw [Ai9 (C7 n r k),Af5 (by omega) r k hk]
 have e1:hT n r (λj=>nth p (nth (B0 n r k) j).toNat)=I9 n n p r k:=by
  unfold hT;rw [<-Hs];congr 1;refine Fi (by simp [C7]) λj hj=> ?_
  have hj:j<r:=by simpa using hj
  rw [Bk _ (by simpa using hj),F0 hj,Bk _ (by rw [C7];exact hj)]
 have:=hTc (λj=>nth (B0 n r k) j) (λj=>nth p (nth (B0 n r k) j).toNat) hx (λj hj=>by have:=Ain hc.1 (hx j hj);omega) (λj hj=>(Ain hc.1 (hx j hj)).2.2.symm);rw [e0,e1,tna0] at this;exact this
theorem Ake (ga:Ca a) (hn:a.Size=n) {p:List Int} (hc:Ou a n p):Ca (Ts a n p)/\Kp a (Ts a n p) (B6 n p):=by
 have hp:=hc.1;have hn0:0<n:=by have:=ga.1;omega
 have hn8:n<=8:=by have:=ga.2.1;omega
 have hnn:a.Size.toNat=n:=by omega
 have ht0:=Awi hp hn0;have htn:(lst n p).length<=n:=Cz _ _;obtain ⟨hl,hin⟩:=Aev hp;have hgood:Ca (Ts a n p):=by
  refine ⟨by show (1:Int)<=((lst n p).length:Int);omega,by show ((lst n p).length:Int)<=8;omega,by simpa [Ts] using ga.2.2.1,λo ho=> ?_⟩;obtain ⟨g,hg,rfl⟩:=List.mem_map.1 ho;obtain ⟨g1,g2,g3,g4⟩:=ga.2.2.2 g hg;rw [hnn] at g3 g4;refine ⟨g1,g2,?_,?_⟩
  ·show ((List.range _).map _).length=(((lst n p).length:Int)).toNat^_;simp [Se]
  ·intro z hz;obtain ⟨k,hk,rfl⟩:=List.mem_map.1 hz;obtain ⟨c,hc1,hc2⟩:=Abm ht0 rfl (A39 (n:=n) (p:=p)) g.Arity.toNat k;have hv:=g4 _ (Aj (show c<g.Table.length by rw [g3];exact hc2));rw [hc1,tna0];exact hin _ (Aj (by omega))
 have al:Tp a (Ts a n p):=⟨ga,hgood,by unfold Fn Ts;simp only [List.map_map];rfl⟩
 refine ⟨hgood,(Gt (Kj al (n:=n) (m:=(lst n p).length) hn rfl)).2 ⟨hl,hin,λi hi k hk=> ?_⟩⟩;have eo:nth (Ts a n p).Ops i=Se n p (nth a.Ops i):=Bk _ hi;obtain ⟨r,hr,e1,l1,t1,_⟩:=opX ga hn hi;have er:(nth a.Ops i).Arity.toNat=r:=by omega
 have hcl:=A9v ga hn hc hi hk;rw [er] at hcl;rw [eo,er];rw [l1] at hk;obtain ⟨z,hz1,hz2⟩:=Aak (g:=lst n p) (l:=n) hn0 hl hin ht0 r k;obtain ⟨z',hz1',hzl⟩:=Abm hn0 hl hin r k;rw [hz1] at hz1';have:=Int.ofNat.inj hz1';subst this;have hpl:Am (B6 n p) (lst n p)=p:=by
  refine Fi (by simp [Am,hl,hp.1]) λx hx=> ?_
  have hx:x<n:=by simpa [Am,hl] using hx
  rw [Dw (by omega)];obtain ⟨j,h1,h2,h3⟩:=Xz hp hx;rw [h1,tna0,h3]
 rw [hpl] at hz2;show nth (B6 n p) (nth (nth a.Ops i).Table k).toNat=nth (Se n p (nth a.Ops i)).Table (I9 n (lst n p).length (B6 n p) r k).toNat;have eT:(Se n p (nth a.Ops i)).Table=(List.range ((lst n p).length^r)).map λk=>nth (B6 n p) (nth (nth a.Ops i).Table (I9 (lst n p).length n (lst n p) r k).toNat).toNat:=by unfold Se;rw [er]
 rw [eT,hz1,tna0,Bk _ (by simpa using hzl),F0 hzl,<-hz2];have hv:=t1 _ (Aj (show k<(nth a.Ops i).Table.length by omega));obtain ⟨c,hc1,hc2⟩:=Abm hn0 hp.1 hp.inS r k;have hw:=t1 _ (Aj (show c<(nth a.Ops i).Table.length by omega));rw [hc1,tna0] at hcl ⊢;exact (Aap hp (by omega) (by omega)).2 hcl
end
def Abd (v:Int):List Int->Nat
 | []=>0
 | x::r=>if x=v then 0 else Abd v r+1
theorem Aer {v:Int} : ∀ {L:List Int},v∈L->Abd v L<L.length/\nth L (Abd v L)=v
 | [],h=>by cases h
 | x::r,h=>by
   simp only [Abd];split
   ·rename_i e;exact ⟨by simp,by simpa [nth] using e⟩
   ·rename_i e;have:=Aer (L:=r) (by
     rcases List.mem_cons.1 h with h1 | h1
     ·exact absurd h1.symm e
     ·exact h1)
    exact ⟨by simp only [List.length_cons];omega,by simpa [nth] using this.2⟩
theorem Ajk {v:Int} : ∀ {L:List Int} {j:Nat},j<Abd v L->nth L j≠v
 | [],j,h=>by simp [Abd] at h
 | x::r,j,h=>by
   simp only [Abd] at h;split at h
   ·omega
   ·rename_i e;cases j with
    | zero=>simpa [nth] using e
    | succ j=> have:=Ajk (v:=v) (L:=r) (j:=j) (by omega);simpa [nth] using this
theorem A4c {v:Int} {L:List Int} {j:Nat} (_hj:j<L.length) (e:nth L j=v):Abd v L<=j:=by
 rcases Nat.lt_or_ge j (Abd v L) with h | h
 ·exact absurd e (Ajk h)
 ·exact h
theorem Avy {α:Type} [Inhabited α] {xs:List α} {i j:Nat} (hj:j<i) (hl:j<xs.length):nth (xs.take i) j=nth xs j:=by rw [Ce (by simp;omega),Ce hl,List.getElem_take]
theorem A8x {α:Type} [Inhabited α] {xs ys:List α} {y:α} {j:Nat} (h:xs.length=j):nth (xs++y::ys) j=y:=by subst h;rw [Ce (by simp)];simp
def Ge (L:List Int):List Int:=L.map λv=>(Abd v L:Int)
theorem Aa5 {L:List Int} {i:Nat} (hi:i<L.length):nth (Ge L) i=(Abd (nth L i) L:Int):=Bk _ hi
theorem Bb9 {L:List Int} {i j:Nat} (hi:i<L.length) (hj:j<L.length):nth (Ge L) i=nth (Ge L) j↔nth L i=nth L j:=by
 rw [Aa5 hi,Aa5 hj];constructor
 ·intro e;have h1:=(Aer (Aj hi)).2;have h2:=(Aer (Aj hj)).2;rw [<-h1,<-h2,show Abd (nth L i) L=Abd (nth L j) L by omega]
 ·intro e;rw [e]
theorem A59 (L:List Int):Kh L.length (Ge L):=by refine ⟨by simp [Ge],λi hi=> ?_⟩;have h1:=Aer (Aj hi);have h2:=A4c hi rfl;rw [Aa5 hi,tna0,Aa5 h1.1,h1.2];omega
theorem A7u {L:List Int} (hl:L.length<=1000):Jo L=some (Ge L):=by
 have hL:=At;unfold Jo;rw [Ae (by omega),tna0];have key:=Bn (body:=D7 L) (λi=>((i:Int),(Ge L).take i++List.replicate (L.length-i) 0)) L.length (Ge L) (λi hi=>by
  have hk:(Ge L).length=L.length:=by simp [Ge]
  have hq:=Aer (Aj hi);have hlen:((Ge L).take i++List.replicate (L.length-i) 0).length=L.length:=by simp [hk];omega
  unfold D7;dsimp only;rw [ip0 (by omega),Ae (by omega),tna0];have inner:=Bn (body:=D2 L (i:Int)) (λj=>((Ge L).take i++List.replicate (L.length-i) 0).set i (j:Int)) (Abd (nth L i) L) (((Ge L).take i++List.replicate (L.length-i) 0).set i (Abd (nth L i) L:Int)) (λj hj=>by
   have hne:=Ajk hj;have e1:nth (((Ge L).take i++List.replicate (L.length-i) 0).set i (j:Int)) i=(j:Int):=by rw [Jd _ _ _ _ (by omega),ip0 rfl]
   unfold D2;rw [tna0,e1,tna0,Ae (by simp only [List.length_set];omega),Ae (by omega),Ae (by omega),ip0 hne,Ae (by simp only [List.length_set];omega),Ae (by omega),Ae (by simp only [List.length_set];omega),List.set_set];rfl) (by
   have e1:nth (((Ge L).take i++List.replicate (L.length-i) 0).set i (Abd (nth L i) L:Int)) i=(Abd (nth L i) L:Int):=by rw [Jd _ _ _ _ (by omega),ip0 rfl]
   unfold D2;rw [tna0,e1,tna0,Ae (by simp only [List.length_set];omega),Ae (by omega),Ae (by omega),in0 (by simpa using hq.2)])
  have inner':Ak (D2 L (i:Int)) (((Ge L).take i++List.replicate (L.length-i) 0).set i 0)=_:=inner;rw [inner'];simp only [obs0];rw [Ae (by omega),Api _ _ _ hi (by simp [hk];omega),C9 (by omega),Aa5 hi];rfl) (by
  unfold D7;dsimp only;rw [in0 (by omega),List.take_of_length_le (by simp [Ge])];simp)
 have key':Ak (D7 L) (0,List.replicate L.length 0)=some (Ge L):=by simpa using key
 rw [key'];rfl
theorem A5u {L:List Int} (hl:L.length<=1000):Jk L=some (Ge L):=by
 have hL:=At;unfold Jk;have key:=Bn (body:=D4 L) (λi=>((i:Int),(Ge L).take i)) L.length (Ge L) (λi hi=>by
  have hk:(Ge L).length=L.length:=by simp [Ge]
  have hq:=Aer (Aj hi);unfold D4;dsimp only;rw [ip0 (by omega)];have inner:=Bn (body:=D5 L (i:Int) ((Ge L).take i)) (λj=>(j:Int)) (Abd (nth L i) L) (Abd (nth L i) L:Int) (λj hj=>by
   have hne:=Ajk hj;unfold D5;rw [Ae (by omega),Ae (by omega),tna0,tna0,ip0 hne,Ae (by omega)];rfl) (by
   unfold D5;rw [Ae (by omega),Ae (by omega),tna0,tna0,in0 (by simpa using hq.2)])
  have inner':Ak (D5 L (i:Int) ((Ge L).take i)) 0=_:=inner;rw [inner'];simp only [obs0];rw [Ae (by simp;omega),Ae (by omega),C9 (by omega),Aa5 hi];rfl) (by
  unfold D4;dsimp only;rw [in0 (by omega),List.take_of_length_le (by simp [Ge])])
 have key':Ak (D4 L) (0,Aw Int)=some (Ge L):=key;rw [key'];rfl
section
variable {n:Nat} {p:List Int}
theorem Avr (hp:Kh n p) {i:Nat} (hi:i<n):nth (B6 n p) i=if nth p i=(i:Int) then (((Ar i λz=>decide (nth p z=(z:Int))).length:Nat):Int) else nth (B6 n p) (nth p i).toNat:=by
 have h1:=hp.2 i hi;unfold B6;rw [Bk _ (by simpa using hi),F0 hi];split
 ·rename_i e;rw [e,tna0]
 ·rw [Bk _ (by simp;omega),F0 (by omega),h1.2.2]
theorem Avv (hp:Kh n p) (hn:n<=8):Fy p=some (B6 n p):=by
 have hL:=At;have hl:=hp.1;have hk:(B6 n p).length=n:=by simp [B6]
 unfold Fy;rw [Ae (by omega),tna0,hl];have key:=Bn (body:=Dj p) (λi=>((i:Int),(((Ar i λz=>decide (nth p z=(z:Int))).length:Nat):Int),(B6 n p).take i++List.replicate (n-i) 0)) n (B6 n p) (λi hi=>by
  have h1:=hp.2 i hi;have hs:=Cz i λz=>decide (nth p z=(z:Int))
  have hlen:((B6 n p).take i++List.replicate (n-i) 0).length=n:=by simp [hk];omega
  have hst:=Avr hp hi;unfold Dj;dsimp only;rw [ip0 (by omega),Ae (by omega),tna0,C9 (show i<(B6 n p).length by omega),De,hst];by_cases e:nth p i=(i:Int)
  ·rw [ip0 e,ip0 e,ip0 (by simpa using e),Ae (by omega),Ae (by omega),Ae (by omega),Api _ _ _ hi (by simp [hk];omega),List.length_append,List.length_singleton];rfl
  ·rw [in0 e,in0 e,in0 (by simpa using e),Ae (by omega),Ae (by omega),Ae (by omega),Api _ _ _ hi (by simp [hk];omega)];have e2:nth ((B6 n p).take i++List.replicate (n-i) 0) (nth p i).toNat=nth (B6 n p) (nth p i).toNat:=by
    rw [Hh (by simp [hk];omega),Avy (by omega) (by omega)]
   rw [e2];rfl) (by
  unfold Dj;dsimp only;rw [in0 (by omega),List.take_of_length_le (by omega)];simp)
 have key':Ak (Dj p) (0,0,List.replicate n 0)=some (B6 n p):=by simpa [Ar] using key
 rw [key'];rfl
theorem A6u (hp:Kh n p) (hn:n<=8):O4 p=some (B6 n p):=by
 have hL:=At;have hl:=hp.1;have hk:(B6 n p).length=n:=by simp [B6]
 unfold O4;have key:=Bn (body:=F9 p) (λi=>((i:Int),(((Ar i λz=>decide (nth p z=(z:Int))).length:Nat):Int),(B6 n p).take i)) n (B6 n p) (λi hi=>by
  have h1:=hp.2 i hi;have hs:=Cz i λz=>decide (nth p z=(z:Int))
  have hst:=Avr hp hi;unfold F9;dsimp only;rw [ip0 (by omega),Ae (by omega),tna0,C9 (show i<(B6 n p).length by omega),De,hst];by_cases e:nth p i=(i:Int)
  ·rw [ip0 e,ip0 e,ip0 (by simpa using e),Ae (by simp;omega),Ae (by omega),Ae (by omega),List.length_append,List.length_singleton];rfl
  ·have e2:nth ((B6 n p).take i) (nth p i).toNat=nth (B6 n p) (nth p i).toNat:=by
    rw [Avy (by omega) (by omega)]
   rw [in0 e,in0 e,in0 (by simpa using e),Ae (by omega),Ae (by simp [hk];omega),Ae (by simp;omega),Ae (by omega),e2];rfl) (by
  unfold F9;dsimp only;rw [in0 (by omega),List.take_of_length_le (by omega)])
 have key':Ak (F9 p) (0,0,Aw Int)=some (B6 n p):=by simpa [Ar] using key
 rw [key'];rfl
theorem Azi (hp:p.length=n) (hn:n<=8):K6 p=some (lst n p):=by
 have hL:=At;unfold K6;have key:=Bn (body:=Et p) (λi=>((i:Int),lst i p)) n (lst n p) (λi hi=>by
  have hs:(lst i p).length<=i:=Cz i _;unfold Et;dsimp only;rw [ip0 (by omega),Ae (by omega),tna0];unfold lst at hs ⊢;rw [De];by_cases e:nth p i=(i:Int)
  ·rw [ip0 e,ip0 (by simpa using e),Ae (by simp only [List.length_singleton];omega),Ae (by omega),e];rfl
  ·rw [in0 e,in0 (by simpa using e),Ae (by omega)];rfl) (by
  unfold Et;dsimp only;rw [in0 (by omega)])
 have key':Ak (Et p) (0,Aw Int)=some (lst n p):=key;rw [key'];rfl
theorem Az6 (hp:p.length=n) (hn:n<=8):Hv p=some (((lst n p).length:Nat):Int):=by
 unfold Hv;have key:=Bn (body:=Dg p) (λi=>((i:Int),(((lst i p).length:Nat):Int))) n (((lst n p).length:Nat):Int) (λi hi=>by
  have hs:(lst i p).length<=i:=Cz i _;unfold Dg;dsimp only;rw [ip0 (by omega),Ae (by omega),tna0];unfold lst at hs ⊢;rw [De];by_cases e:nth p i=(i:Int)
  ·rw [ip0 e,ip0 (by simpa using e),Ae (by omega),Ae (by omega),List.length_append,List.length_singleton];rfl
  ·rw [in0 e,in0 (by simpa using e),Ae (by omega)];rfl) (by
  unfold Dg;dsimp only;rw [in0 (by omega)])
 have key':Ak (Dg p) (0,0)=some (((lst n p).length:Nat):Int):=key;rw [key'];rfl
end
section
variable {a:SAlgebra} {n:Nat}
theorem A7l (h:ReadyA a n) {sub:List Int} (hs:Ei a n sub) (h0:sub≠[]):Hr a sub=some (Sv a n sub):=by
 have hL:=At;obtain ⟨hx,hr,hcl⟩:=(Lb h).1 hs;have hk0:0<sub.length:=List.length_pos_iff.2 h0;have hlen:sub.length<=n:=Ahd hs;have hn8:=h.le;unfold Hr;rw [h.sz,Ae (by omega),tna0];have k1:=Bn (body:=Dk a sub) (λi=>((i:Int),plc n sub i)) sub.length (plc n sub sub.length) (λi hi=>by
  have hv:=hx _ (Aj hi);have hl:=Aw0 n sub i;unfold Dk;dsimp only;rw [ip0 (by omega),Ae (by omega),tna0,Ae (by omega),Ae (by omega)];rfl) (by
  unfold Dk;dsimp only;rw [in0 (by omega)])
 have k1':Ak (Dk a sub) (0,List.replicate n 0)=some (plc n sub sub.length):=k1;rw [k1'];simp only [obs0];have k4:=Bn (body:=Dh a sub (plc n sub sub.length)) (λi=>((i:Int),(⟨(sub.length:Int),(a.Ops.take i).map (Mc n sub)⟩:SAlgebra))) a.Ops.length (Sv a n sub) (λi hi=>by
  obtain ⟨r,hr3,e1,l1,t1,l3,_⟩:=opX h.good h.sz hi;have er:(nth a.Ops i).Arity.toNat=r:=by omega
  have h4:=h.good.2.2.1;unfold Dh;dsimp only;rw [ip0 (by omega),Ae (by omega),tna0];have hkr:sub.length^r<=512:=Yh (by omega) hr3;have k3:=Bn (body:=Df a sub (plc n sub sub.length) (i:Int) ⟨(sub.length:Int),(a.Ops.take i).map (Mc n sub)⟩) (λk=>((k:Int),(⟨(nth a.Ops i).Arity,(Mc n sub (nth a.Ops i)).Table.take k⟩:SOp))) (sub.length^r) (Mc n sub (nth a.Ops i)) (λk hk=>by
   have htl:(Mc n sub (nth a.Ops i)).Table.length=sub.length^r:=by simp [Mc,er]
   have hal:=C7 sub.length r k;have hai:=Ii hk0 r k;unfold Df;dsimp only;rw [tna0,e1,Aj0 (by omega) hr3];simp only [obs0];rw [ip0 (by exact_mod_cast hk),A0p hk0 (by omega) hr3 (by omega)];simp only [obs0];have k2:=Bn (body:=Dm a sub (plc n sub sub.length) (i:Int) ⟨(sub.length:Int),(a.Ops.take i).map (Mc n sub)⟩ (k:Int) ⟨(r:Int),(Mc n sub (nth a.Ops i)).Table.take k⟩ (B0 sub.length r k)) (λj=>((j:Int),((B0 sub.length r k).take j).map (λx=>nth sub x.toNat)++(B0 sub.length r k).drop j)) r ((B0 sub.length r k).map λx=>nth sub x.toNat) (λj hj=>by
    have hv:=hai _ (Aj (show j<(B0 sub.length r k).length by omega));have hj':j<(B0 sub.length r k).length:=by omega
    have e2:nth (((B0 sub.length r k).take j).map (λx=>nth sub x.toNat)++(B0 sub.length r k).drop j) j=nth (B0 sub.length r k) j:=by rw [Avb hj'];exact A8x (by simp;omega)
    have e3:(((B0 sub.length r k).take j).map (λx=>nth sub x.toNat)++(B0 sub.length r k).drop j).set j (nth sub (nth (B0 sub.length r k) j).toNat)=((B0 sub.length r k).take (j+1)).map (λx=>nth sub x.toNat)++(B0 sub.length r k).drop (j+1):=by
     have:(((B0 sub.length r k).take j).map λx=>nth sub x.toNat).length=j:=by simp;omega
     rw [List.set_append_right _ _ (by omega),this,Nat.sub_self,Avb hj',List.set_cons_zero,C9 hj',List.map_append];simp
    have hll:(((B0 sub.length r k).take j).map (λx=>nth sub x.toNat)++(B0 sub.length r k).drop j).length=r:=by simp;omega
    unfold Dm;dsimp only;rw [ip0 (by omega),Ae (by omega),tna0,e2,Ae (by omega),Ae (by omega),Ae (by omega),e3];rfl) (by
    unfold Dm;dsimp only;rw [in0 (by omega),List.take_of_length_le (by omega),List.drop_eq_nil_of_le (by omega),List.append_nil])
   have k2':Ak (Dm a sub (plc n sub sub.length) (i:Int) ⟨(sub.length:Int),(a.Ops.take i).map (Mc n sub)⟩ (k:Int) ⟨(r:Int),(Mc n sub (nth a.Ops i)).Table.take k⟩ (B0 sub.length r k)) (0,B0 sub.length r k)=some ((B0 sub.length r k).map λx=>nth sub x.toNat):=by simpa using k2
   rw [k2'];simp only [obs0];rw [h.sz,Au3 hn8 (by rw [List.length_map,hal];exact hr3) (Qu hk0 rfl hx r k),Hs];simp only [obs0];obtain ⟨c,hc1,hc2⟩:=Abm hk0 rfl hx r k;have hv:=t1 _ (Aj (show c<(nth a.Ops i).Table.length by omega));have hpl:=Aw0 n sub sub.length;have ent:nth (Mc n sub (nth a.Ops i)).Table k=nth (plc n sub sub.length) (nth (nth a.Ops i).Table c).toNat:=by unfold Mc;dsimp only;rw [er,Bk _ (by simpa using hk),F0 hk,hc1,tna0]
   rw [hc1,tna0,Ae (by omega),Ae (by omega),Ae (by simp;omega),Ae (by omega),C9 (show k<(Mc n sub (nth a.Ops i)).Table.length by omega),ent];rfl) (by
   have htl:(Mc n sub (nth a.Ops i)).Table.length=sub.length^r:=by simp [Mc,er]
   unfold Df;dsimp only;rw [tna0,e1,Aj0 (by omega) hr3];simp only [obs0];rw [in0 (by omega),List.take_of_length_le (by omega),<-e1];rfl)
  have k3':Ak (Df a sub (plc n sub sub.length) (i:Int) ⟨(sub.length:Int),(a.Ops.take i).map (Mc n sub)⟩) (0,{ Arity:=(nth a.Ops i).Arity,Table:=Aw Int })=some (Mc n sub (nth a.Ops i)):=k3;rw [k3'];simp only [obs0];rw [Ae (by simp;omega),Ae (by omega),C9 hi,List.map_append];rfl) (by
  unfold Dh;dsimp only;rw [in0 (by omega),List.take_length];rfl)
 have k4':Ak (Dh a sub (plc n sub sub.length)) (0,{ Size:=(sub.length:Int),Ops:=Aw SOp })=some (Sv a n sub):=k4;rw [k4'];rfl
theorem A6z (ga:Ca a) (hn:a.Size=n) {p:List Int} (hc:Ou a n p):Js a p=some (Ts a n p):=by
 have hL:=At;have hp:=hc.1;have hn0:0<n:=by have:=ga.1;omega
 have hn8:n<=8:=by have:=ga.2.1;omega
 have ht0:=Awi hp hn0;have htn:(lst n p).length<=n:=Cz _ _;obtain ⟨hl,hin⟩:=Aev hp;have hx:=A39 (n:=n) (p:=p);unfold Js;rw [Azi hp.1 hn8,Avv hp hn8];simp only [obs0];have k2:=Bn (body:=D0 a (lst n p) (B6 n p)) (λi=>((i:Int),(⟨((lst n p).length:Int),(a.Ops.take i).map (Se n p)⟩:SAlgebra))) a.Ops.length (Ts a n p) (λi hi=>by
  obtain ⟨r,hr3,e1,l1,t1,l3,_⟩:=opX ga hn hi;have er:(nth a.Ops i).Arity.toNat=r:=by omega
  have h4:=ga.2.2.1;have hkr:(lst n p).length^r<=512:=Yh (by omega) hr3;have htl:(Se n p (nth a.Ops i)).Table.length=(lst n p).length^r:=by simp [Se,er]
  unfold D0;dsimp only;rw [ip0 (by omega),Ae (by omega),tna0];have k1:=Bn (body:=D1 a (lst n p) (B6 n p) (i:Int) ⟨((lst n p).length:Int),(a.Ops.take i).map (Se n p)⟩) (λk=>((k:Int),(⟨(nth a.Ops i).Arity,(Se n p (nth a.Ops i)).Table.take k⟩:SOp))) ((lst n p).length^r) (Se n p (nth a.Ops i)) (λk hk=>by
   have hal:=C7 (lst n p).length r k;have hai:=Ii ht0 r k;unfold D1;dsimp only;rw [tna0,e1,Aj0 (by omega) hr3];simp only [obs0];rw [ip0 (by exact_mod_cast hk),A0p ht0 (by omega) hr3 (by omega)];simp only [obs0];rw [Aeu (by omega) hai];simp only [obs0];unfold Am;rw [hn,Au3 hn8 (by rw [List.length_map,hal];exact hr3) (Qu ht0 rfl hx r k),Hs];simp only [obs0];obtain ⟨c,hc1,hc2⟩:=Abm ht0 rfl hx r k;have hv:=t1 _ (Aj (show c<(nth a.Ops i).Table.length by omega));have ent:nth (Se n p (nth a.Ops i)).Table k=nth (B6 n p) (nth (nth a.Ops i).Table c).toNat:=by unfold Se;dsimp only;rw [er,Bk _ (by simpa using hk),F0 hk,hc1,tna0]
   rw [hc1,tna0,Ae (by omega),Ae (by omega),Ae (by simp;omega),Ae (by omega),C9 (show k<(Se n p (nth a.Ops i)).Table.length by omega),ent];rfl) (by
   unfold D1;dsimp only;rw [tna0,e1,Aj0 (by omega) hr3];simp only [obs0];rw [in0 (by omega),List.take_of_length_le (by omega),<-e1];rfl)
  have k1':Ak (D1 a (lst n p) (B6 n p) (i:Int) ⟨((lst n p).length:Int),(a.Ops.take i).map (Se n p)⟩) (0,{ Arity:=(nth a.Ops i).Arity,Table:=Aw Int })=some (Se n p (nth a.Ops i)):=k1;rw [k1'];simp only [obs0];rw [Ae (by simp;omega),Ae (by omega),C9 hi,List.map_append];rfl) (by
  unfold D0;dsimp only;rw [in0 (by omega),List.take_length];rfl)
 have k2':Ak (D0 a (lst n p) (B6 n p)) (0,{ Size:=((lst n p).length:Int),Ops:=Aw SOp })=some (Ts a n p):=k2;rw [k2'];rfl
end
theorem Aik {xs:List Int} (h:xs.length<=LIM):Gg xs xs=some true:=by
 have hL:=At;unfold Gg;rw [in0 (by simp)];have:=Bn (body:=Ga xs xs) (λi=>(i:Int)) xs.length (.inr ()) (λi hi=>by
  unfold Ga;rw [ip0 (by omega)];repeat rw [Ae (by omega)]
  rw [in0 (by simp)];rfl) (by
  unfold Ga;rw [in0 (by omega)])
 have h0:Ak (Ga xs xs) 0=some (.inr ()):=this;rw [h0];rfl
theorem Be7 {f:SOp} (h:f.Table.length<=LIM):Vc f f=some true:=by unfold Vc;rw [ip0 rfl,Aik h];rfl
theorem Bdw {fs:List SOp} (h:fs.length<=LIM) (h1 : ∀f∈fs,f.Table.length<=LIM):R1 fs fs=some true:=by
 have hL:=At;unfold R1;rw [in0 (by simp)];have:=Bn (body:=G0 fs fs) (λi=>(i:Int)) fs.length (.inr ()) (λi hi=>by
  unfold G0;rw [ip0 (by omega)];repeat rw [Ae (by omega)]
  rw [tna0,Be7 (h1 _ (Aj hi))];simp only [obs0,if_true];rfl) (by
  unfold G0;rw [in0 (by omega)])
 have h0:Ak (G0 fs fs) 0=some (.inr ()):=this;rw [h0];rfl
theorem A2p {a:SAlgebra} (h:Hg a):Ju a a=some true:=by have hL:=At;unfold Ju;rw [ip0 rfl,Bdw (by have:=h.1;omega) (λf hf=>by have:=h.2 f hf;omega)];rfl
section
variable {a b:SAlgebra} {n m:Nat}
theorem Bcb (hn:n<=8):Baq n m 1 (Ac3 m false) (λfs=> .inr ((),fs.head?)):=by
 have hL:=At;intro f fs hf _ hl;have ha:Ac3 m false f:=λhc=>by cases hc
 have:fs=[]:=List.length_eq_zero_iff.1 (by omega);subst this;unfold Gx Kf Mm;dsimp only [List.head?_nil];simp only [obs0];rw [ip0 trivial,Ay6 (by have:=hf.1;omega),ip0 ha];simp only [obs0];rfl
noncomputable def A6y (a b:SAlgebra):Bool×Bool:=if Tp a b then (if a.Size≠b.Size then (false,true) else
 (decide ((Mr a b a.Size.toNat b.Size.toNat true (Ac3 b.Size.toNat false) 1).1<=5000/\(Mr a b a.Size.toNat b.Size.toNat true (Ac3 b.Size.toNat false) 1).2≠[]),decide ((Mr a b a.Size.toNat b.Size.toNat true (Ac3 b.Size.toNat false) 1).1<=5000))) else (false,false)
theorem Ag8 (ha:Hg a) (hb:Hg b):Fs a b=some (A6y a b):=by
 unfold Fs A6y;rw [Bbr ha hb];simp only [obs0];by_cases h:Tp a b
 ·have hP:=A4g h;obtain ⟨hn,hn8,hm,hm8⟩:=hP.pos;rw [show (decide (Ca a/\Ca b/\Fn a=Fn b))=true from dtr0 h,ip0 rfl,ip0 h];by_cases hS:a.Size=b.Size
  ·rw [in0 (by simpa using hS),in0 (by simpa using hS),A9w hP true false _ (Bcb hP.pos.2.1)];have hf:=(Aml hP true (Ac3 b.Size.toNat false) 1).2;simp only [obs0];cases e2:(Mr a b a.Size.toNat b.Size.toNat true (Ac3 b.Size.toNat false) 1).2 with
   | nil=>
     dsimp only [List.head?_nil];by_cases h1:(Mr a b a.Size.toNat b.Size.toNat true (Ac3 b.Size.toNat false) 1).1<=5000
     ·rw [dtr0 h1,ip0 rfl,dfa0 (by simp)];rfl
     ·rw [dfa0 h1,in0 (by simp),dfa0 (by simp)]
   | cons f fs=>
     have hl:=(hf f (by rw [e2];simp)).ok.1;dsimp only [List.head?_cons];by_cases h1:(Mr a b a.Size.toNat b.Size.toNat true (Ac3 b.Size.toNat false) 1).1<=5000
     ·rw [dtr0 h1,ip0 rfl,Ae (by omega),dtr0 (by simp [h1])]
     ·rw [dfa0 h1,in0 (by simp),dfa0 (by simp [h1])]
  ·rw [ip0 hS,ip0 hS]
 ·rw [show (decide (Ca a/\Ca b/\Fn a=Fn b))=false from dfa0 h,in0 (by simp),in0 h]
theorem A53 (hk:(A6y a b).2=true):(A6y a b).1=true ↔ ∃f,Ant a b f:=by
 unfold A6y at hk ⊢;by_cases h:Tp a b
 ·have hP:=A4g h;rw [ip0 h] at hk ⊢;by_cases hS:a.Size=b.Size
  ·rw [in0 (by simpa using hS)] at hk ⊢;have h1:=of_decide_eq_true hk;dsimp only;rw [decide_eq_true_eq];have hf:=(Aml hP true (Ac3 b.Size.toNat false) 1).2;constructor
   ·rintro ⟨_,hne⟩;cases e2:(Mr a b a.Size.toNat b.Size.toNat true (Ac3 b.Size.toNat false) 1).2 with
    | nil=>exact absurd e2 hne
    | cons f fs=> have:=hf f (by rw [e2];simp);exact ⟨f,this.hom,hS,this.hom.emb.1 (this.into rfl)⟩
   ·rintro ⟨f,hfI⟩;refine ⟨h1,λhc=> ?_⟩;have:=A7g hP true (Ac3 b.Size.toNat false) 1 hfI.1 (λhx=>by cases hx) (λ_=>hfI.1.emb.2 hfI.2.2) (by unfold Hc;rw [hc];simp;omega);rw [hc] at this;cases this
  ·rw [ip0 hS] at hk ⊢;exact ⟨λhx=>(by cases hx),λ⟨f,hfI⟩=>absurd hfI.2.1 hS⟩
 ·rw [in0 h] at hk;cases hk
end
section
variable {a:SAlgebra}
theorem Aem (h:Hg a) {p:List Int} (hl:p.length<=1000):Dn a p=some (decide (Ca a/\Ou a a.Size.toNat p)):=by
 unfold Dn;rw [N2 h];simp only [obs0];by_cases hg:Ca a
 ·rw [dtr0 hg,ip0 rfl,Aql hg (n:=a.Size.toNat) (by have:=hg.1;omega) (by omega)];simp only [obs0];exact congrArg some (decide_eq_decide.2 ⟨λhh=>⟨hg,hh⟩,λhh=>hh.2⟩)
 ·rw [dfa0 hg,in0 (by simp),dfa0 (λhh=>hg hh.1)]
theorem Ak3 (h:Hg a) {p:List Int} (hl:p.length<=1000):Gy a p=some (decide (Ca a/\Ou a a.Size.toNat p)):=by
 unfold Gy;rw [Arw h];simp only [obs0];by_cases hg:Ca a
 ·rw [dtr0 hg,ip0 rfl,Ber hg (n:=a.Size.toNat) (by have:=hg.1;omega) (by omega)];simp only [obs0];exact congrArg some (decide_eq_decide.2 ⟨λhh=>⟨hg,hh⟩,λhh=>hh.2⟩)
 ·rw [dfa0 hg,in0 (by simp),dfa0 (λhh=>hg hh.1)]
noncomputable def Auj (a:SAlgebra) (sub p:List Int):List Int×Bool:=if Ca a/\Ou a a.Size.toNat p then (if sub=[] then ([],false) else if Ei a a.Size.toNat sub then (Ge (Am sub p),true) else ([],false)) else ([],false)
theorem Au5 (h:Hg a) {sub p:List Int} (hp:p.length<=1000) (hs:sub.length<=1000):Cr a sub p=some (Auj a sub p):=by
 have hL:=At;unfold Cr Auj;rw [Aem h hp];simp only [obs0];by_cases hc:Ca a/\Ou a a.Size.toNat p
 ·have hr:=Ps hc.1;rw [dtr0 hc,ip0 rfl,ip0 hc];by_cases h0:sub=[]
  ·rw [ip0 h0,ip0 (by rw [h0];rfl)]
  ·have:0<sub.length:=List.length_pos_iff.2 h0;rw [in0 h0,in0 (by omega),Aph hr (by omega)];simp only [obs0];by_cases hi:Ei a a.Size.toNat sub
   ·have hx:=hi.1;rw [dtr0 hi,ip0 rfl,ip0 hi,Aeu (by omega) (by rw [hc.2.1.1];exact hx)];simp only [obs0];rw [A7u (by simp [Am];omega)];rfl
   ·rw [dfa0 hi,in0 (by simp),in0 hi]
 ·rw [dfa0 hc,in0 (by simp),in0 hc]
theorem A5r (h:Hg a) {sub p:List Int} (hp:p.length<=1000) (hs:sub.length<=1000):Dt a sub p=some (Auj a sub p):=by
 have hL:=At;unfold Dt Auj;rw [Ak3 h hp];simp only [obs0];by_cases hc:Ca a/\Ou a a.Size.toNat p
 ·have hr:=Ps hc.1;rw [dtr0 hc,ip0 rfl,ip0 hc];by_cases h0:sub=[]
  ·rw [ip0 h0,ip0 (by rw [h0];rfl)];rfl
  ·have:0<sub.length:=List.length_pos_iff.2 h0;rw [in0 h0,in0 (by omega),Axg hr (by omega)];simp only [obs0];by_cases hi:Ei a a.Size.toNat sub
   ·have hx:=hi.1;have hpl:=hc.2.1.1;rw [dtr0 hi,ip0 rfl,ip0 hi];simp only [obs0];have key:=Bn (body:=Bt sub p) (λi=>((i:Int),(Am sub p).take i)) sub.length (Am sub p) (λi hi=>by
     have hv:=hx _ (Aj hi);have hk:(Am sub p).length=sub.length:=by simp [Am]
     unfold Bt;dsimp only;rw [ip0 (by omega),Ae (by omega),tna0,Ae (by omega),Ae (by simp;omega),Ae (by omega),C9 (show i<(Am sub p).length by omega),Dw hi];rfl) (by
     unfold Bt;dsimp only;rw [in0 (by omega),List.take_of_length_le (by simp [Am])])
    have key':Ak (Bt sub p) (0,Aw Int)=some (Am sub p):=key;rw [key'];simp only [obs0];rw [A5u (by simp [Am];omega)];rfl
   ·rw [dfa0 hi,in0 (by simp),in0 hi];rfl
 ·rw [dfa0 hc,in0 (by simp),in0 hc];rfl
noncomputable def Sf (n:Nat) (sub p:List Int):List Int:=Ar n λx=>decide (nth p x∈Am sub p)
noncomputable def Aug (a:SAlgebra) (sub p:List Int):List Int×Bool:=if Ca a/\Ou a a.Size.toNat p then (if Ei a a.Size.toNat sub then (Sf a.Size.toNat sub p,true) else ([],false)) else ([],false)
theorem Acz {n m:Nat} {f g:List Int} (hf:Bc f n) (hg:g.length=n) (hx:Bc g m):Bc (Am f g) m:=λz hz=>by obtain ⟨y,hy,rfl⟩:=List.mem_map.1 hz;have hv:=hf y hy;exact hx _ (Aj (show y.toNat<g.length by omega))
theorem Y2 {f g:List Int} {v:Int}:v∈Am f g ↔ ∃x,x<f.length/\nth g (nth f x).toNat=v:=by
 rw [Cw];constructor
 ·rintro ⟨i,hi,e⟩;have hi:i<f.length:=by simpa [Am] using hi
  rw [Dw hi] at e;exact ⟨i,hi,e⟩
 ·rintro ⟨i,hi,e⟩;exact ⟨i,by simpa [Am] using hi,by rw [Dw hi];exact e⟩
theorem Ara {n:Nat} {sub p:List Int} (hp:Kh n p) (hn:n<=8) (hs:sub.length<=1000) (hx:Bc sub n):Jm sub p=some (Sf n sub p):=by
 have hL:=At;have hl:=hp.1;have hin:=Acz hx hl hp.inS;unfold Jm;rw [Aeu (by omega) (by rw [hl];exact hx)];simp only [obs0];rw [hl,Aw7 (by omega) hin (by simp [Am];omega)];simp only [obs0];rw [Abe n (λx=>decide (nth p x∈Am sub p)) (λi acc hi ha=>by
  have h1:=hp.2 i hi;have hb:=Jw n λz=>decide ((z:Int)∈Am sub p)
  have eb:nth (Mg n λz=>decide ((z:Int)∈Am sub p)) (nth p i).toNat=decide (nth p i∈Am sub p):=by rw [Ko (by omega),show (((nth p i).toNat:Nat):Int)=nth p i by omega]
  unfold G1;dsimp only;rw [ip0 (by omega),Ae (by omega),tna0,Ae (by omega),eb];by_cases h:nth p i∈Am sub p
  ·rw [dtr0 h,ip0 rfl,Ae (by simp only [List.length_singleton];omega),Ae (by omega)];rfl
  ·rw [dfa0 h,in0 (by simp),Ae (by omega)];rfl) (λacc=>by
  unfold G1;dsimp only;rw [in0 (by omega)])]
 rfl
theorem A7x (h:Hg a) {sub p:List Int} (hp:p.length<=1000) (hs:sub.length<=1000):G3 a sub p=some (Aug a sub p):=by
 have hL:=At;unfold G3 Aug;rw [Aem h hp];simp only [obs0];by_cases hc:Ca a/\Ou a a.Size.toNat p
 ·have hr:=Ps hc.1;rw [dtr0 hc,ip0 rfl,ip0 hc,Aph hr (by omega)];simp only [obs0];by_cases hi:Ei a a.Size.toNat sub
  ·rw [dtr0 hi,ip0 rfl,ip0 hi,Ara hc.2.1 hr.le hs hi.1];rfl
  ·rw [dfa0 hi,in0 (by simp),in0 hi]
 ·rw [dfa0 hc,in0 (by simp),in0 hc]
theorem A5w (h:Hg a) {sub p:List Int} (hp:p.length<=1000) (hs:sub.length<=1000):Gw a sub p=some (Aug a sub p):=by
 have hL:=At;unfold Gw Aug;rw [Ak3 h hp];simp only [obs0];by_cases hc:Ca a/\Ou a a.Size.toNat p
 ·have hr:=Ps hc.1;have hpl:=hc.2.1.1;have hz:=hr.sz;have hn8:=hr.le;rw [dtr0 hc,ip0 rfl,ip0 hc,Axg hr (by omega)];simp only [obs0];by_cases hi:Ei a a.Size.toNat sub
  ·have hx:=hi.1;rw [dtr0 hi,ip0 rfl,ip0 hi];simp only [obs0];unfold Sf;rw [Abe a.Size.toNat (λx=>decide (nth p x∈Am sub p)) (λi acc hi ha=>by
    unfold E5;dsimp only;rw [ip0 (by omega)];have inner:=Bn (body:=C3 a sub p (i:Int) acc) (λj=>((j:Int),decide (nth p i∈(Am sub p).take j))) sub.length (decide (nth p i∈Am sub p)) (λj hj=>by
     have hv:=hx _ (Aj hj);have hk:(Am sub p).length=sub.length:=by simp [Am]
     unfold C3;dsimp only;rw [ip0 (by omega)];have est:(nth p i∈(Am sub p).take (j+1))↔nth p i∈(Am sub p).take j\/nth p (nth sub j).toNat=nth p i:=by rw [C9 (show j<(Am sub p).length by omega),Dw hj,List.mem_append,List.mem_singleton];exact ⟨λhh=>hh.imp id Eq.symm,λhh=>hh.imp id Eq.symm⟩
     by_cases hm:nth p i∈(Am sub p).take j
     ·rw [dtr0 hm,ip0 rfl,Ae (by omega),dtr0 (est.2 (.inl hm))];rfl
     ·rw [dfa0 hm,in0 (by simp),Ae (by omega),tna0,Ae (by omega),Ae (by omega),Ae (by omega),tna0];refine congrArg (λx=>some (Sum.inl (_,x))) ?_;rw [Bool.eq_iff_iff,beq_iff_eq,decide_eq_true_eq,est];exact ⟨.inr,λhh=>hh.resolve_left hm⟩) (by
     unfold C3;dsimp only;rw [in0 (by omega),List.take_of_length_le (by simp [Am])])
    have inner':Ak (C3 a sub p (i:Int) acc) (0,false)=some (decide (nth p i∈Am sub p)):=by simpa using inner
    rw [inner'];simp only [obs0];by_cases h:nth p i∈Am sub p
    ·rw [dtr0 h,ip0 rfl,Ae (by simp only [List.length_singleton];omega),Ae (by omega)];rfl
    ·rw [dfa0 h,in0 (by simp),Ae (by omega)];rfl) (λacc=>by
    unfold E5;dsimp only;rw [in0 (by omega)])]
   rfl
  ·rw [dfa0 hi,in0 (by simp),in0 hi];rfl
 ·rw [dfa0 hc,in0 (by simp),in0 hc];rfl
noncomputable def Nh (t:Nat) (h:List Int):List Int:=Ar t λz=>decide ((z:Int)∈h)
noncomputable def As4 (a:SAlgebra) (sub p:List Int):List Int×Bool:=if Ca a/\Ou a a.Size.toNat p then (if Ei a a.Size.toNat sub then (Nh (lst a.Size.toNat p).length (Am sub (B6 a.Size.toNat p)),true) else ([],false)) else ([],false)
theorem Avs (h:Hg a) {sub p:List Int} (hp:p.length<=1000) (hs:sub.length<=1000):Hi a sub p=some (As4 a sub p):=by
 have hL:=At;unfold Hi As4;rw [Aem h hp];simp only [obs0];by_cases hc:Ca a/\Ou a a.Size.toNat p
 ·have hr:=Ps hc.1;have hP:=hc.2.1;have hn8:=hr.le;obtain ⟨b1,b2⟩:=Aev hP;have hts:(lst a.Size.toNat p).length<=a.Size.toNat:=Cz _ _;rw [dtr0 hc,ip0 rfl,ip0 hc,Aph hr (by omega)];simp only [obs0];by_cases hi:Ei a a.Size.toNat sub
  ·rw [dtr0 hi,ip0 rfl,ip0 hi];simp only [obs0];rw [Avv hP hn8];simp only [obs0];rw [Aeu (by omega) (by rw [b1];exact hi.1)];simp only [obs0];rw [Az6 hP.1 hn8];simp only [obs0];unfold M4;rw [Aw7 (by omega) (Acz hi.1 b1 b2) (by simp [Am];omega)];simp only [obs0];rw [A0t (by omega)];rfl
  ·rw [dfa0 hi,in0 (by simp),in0 hi];rfl
 ·rw [dfa0 hc,in0 (by simp),in0 hc];rfl
theorem A6h (h:Hg a) {sub p:List Int} (hp:p.length<=1000) (hs:sub.length<=1000):Jh a sub p=some (As4 a sub p):=by
 have hL:=At;unfold Jh As4;rw [Ak3 h hp];simp only [obs0];by_cases hc:Ca a/\Ou a a.Size.toNat p
 ·have hr:=Ps hc.1;have hP:=hc.2.1;have hn8:=hr.le;obtain ⟨b1,b2⟩:=Aev hP;have hts:(lst a.Size.toNat p).length<=a.Size.toNat:=Cz _ _;rw [dtr0 hc,ip0 rfl,ip0 hc,Axg hr (by omega)];simp only [obs0];by_cases hi:Ei a a.Size.toNat sub
  ·have hx:=hi.1;rw [dtr0 hi,ip0 rfl,ip0 hi];simp only [obs0];rw [A6u hP hn8];simp only [obs0];have hk:(Am sub (B6 a.Size.toNat p)).length=sub.length:=by simp [Am]
   have hin:=Acz hx b1 b2;have key:=Bn (body:=D3 sub (B6 a.Size.toNat p)) (λi=>((i:Int),Nh (lst a.Size.toNat p).length ((Am sub (B6 a.Size.toNat p)).take i))) sub.length (Nh (lst a.Size.toNat p).length (Am sub (B6 a.Size.toNat p))) (λi hi=>by
    have hv:=hx _ (Aj hi);have hy:=hin _ (Aj (show i<(Am sub (B6 a.Size.toNat p)).length by omega));rw [Dw hi] at hy;obtain ⟨y,ey⟩:=Int.eq_ofNat_of_zero_le hy.1;unfold D3 Nh;dsimp only;rw [ip0 (by omega),Ae (by omega),tna0,Ae (by omega),ey,Bbh (by omega) _ (by omega)];simp only [obs0];rw [Ae (by omega)];refine congrArg (λx=>some (Sum.inl (_,x))) (R4 λz _=> ?_);rw [C9 (show i<(Am sub (B6 a.Size.toNat p)).length by omega),Dw hi,ey,decide_eq_decide,decide_eq_true_eq,List.mem_append,List.mem_singleton];exact ⟨λhh=>hh.imp id (λe=>by omega),λhh=>hh.imp id (λe=>by omega)⟩) (by
    unfold D3;dsimp only;rw [in0 (by omega),List.take_of_length_le (by omega)])
   have e0:Nh (lst a.Size.toNat p).length ((Am sub (B6 a.Size.toNat p)).take 0)=Aw Int:=Avw.2 λy _=>by simp
   rw [e0] at key;have key':Ak (D3 sub (B6 a.Size.toNat p)) (0,Aw Int)=_:=key;rw [key'];rfl
  ·rw [dfa0 hi,in0 (by simp),in0 hi];rfl
 ·rw [dfa0 hc,in0 (by simp),in0 hc];rfl
theorem Ahm (h:Hg a) (hg:Ca a) {sub:List Int} (hs:Ei a a.Size.toNat sub) (h0:sub≠[]):C2 a sub=some (Sv a a.Size.toNat sub,true):=by have hL:=At;have hr:=Ps hg;have hn8:=hr.le;have hl:=Ahd hs;have:0<sub.length:=List.length_pos_iff.2 h0;unfold C2;rw [N2 h,dtr0 hg];simp only [obs0,if_true];rw [in0 (by omega),Aph hr (by omega),dtr0 hs];simp only [obs0,if_true];rw [A7l hr hs h0];rfl
theorem Ahg (h:Hg a) (hg:Ca a) {p:List Int} (hc:Ou a a.Size.toNat p):B4 a p=some (Ts a a.Size.toNat p,true):=by have hn8:=(Ps hg).le;have hl:=hc.1.1;unfold B4;rw [Aem h (by omega),dtr0 ⟨hg,hc⟩];simp only [obs0,if_true];rw [A6z hg (Ps hg).sz hc];rfl
end
theorem Aqz {b q:SAlgebra} (h:Fn b=Fn q) {i:Nat} (hi:i<b.Ops.length):i<q.Ops.length/\(nth b.Ops i).Arity=(nth q.Ops i).Arity:=by
 have hl:=congrArg List.length h;simp only [Fn,List.length_map] at hl;have hq:i<q.Ops.length:=by omega
 have e3:nth (Fn b) i=(nth b.Ops i).Arity:=Bk _ hi;have e4:nth (Fn q) i=(nth q.Ops i).Arity:=Bk _ hq;exact ⟨hq,by rw [<-e3,<-e4,h]⟩
theorem A0y {f:List Int} {n:Nat} (hu:uniq f) (hx:Bc f n):f.length<=n:=by
 have hn:f.Nodup:=List.pairwise_iff_getElem.2 λi j hi hj hij e=>hu j hj (Cw.2 ⟨i,by simp;omega,by rw [Ce (by simp;omega),List.getElem_take,Ce hj];exact e⟩)
 have:=Au8 (M:=idL n) hn (λz hz=>Cw.2 ⟨z.toNat,by have:=hx z hz;simp [idL];omega,by have:=hx z hz;rw [Aqp (by omega)];omega⟩);simpa [idL] using this
theorem A9k {b q:SAlgebra} {nb nq:Nat} (P:Pair b q nb nq) {h r:List Int} (hh:Kp b q h) (hr:Kh nb r) (ke : ∀x y,x<nb->y<nb->(nth r x=nth r y↔nth h x=nth h y)):Ou b nb r:=by
 obtain ⟨f1,f2,f3⟩:=(Gt P).1 hh;obtain ⟨hb0,hb8,hq0,hq8⟩:=P.pos;refine ⟨hr,λo ho e he i hi=> ?_⟩;unfold Aha;obtain ⟨_,ar,har,e1,l1,l2,t1,t2,_⟩:=P.op ho;have er:(nth b.Ops o).Arity.toNat=ar:=by omega
 rw [er] at he;have hi':i<nb^ar:=by rw [<-l1];exact hi
 have hrl:=hr.1;obtain ⟨c,hc1,hc2⟩:=Apb hb0 ⟨hr.1,hr.inS⟩ hi' he;have hsw:=Ys r ar i (ar-1-e) hi' (by omega);rw [show ar-1-(ar-1-e)=e by omega,hc1] at hsw;have hai:=Ii hb0 ar i;have hal:=C7 nb ar i;have hset:Bc ((B0 nb ar i).set (ar-1-e) (nth r (nth (B0 nb ar i) (ar-1-e)).toNat)) nb:=by
  intro z hz;rcases List.mem_or_eq_of_mem_set hz with h1 | h1
  ·exact hai z h1
  ·rw [h1];have hv:=hai _ (Aj (show ar-1-e<(B0 nb ar i).length by omega));exact hr.inS _ (Aj (by omega))
 have hac:B0 nb ar c=(B0 nb ar i).set (ar-1-e) (nth r (nth (B0 nb ar i) (ar-1-e)).toNat):=by have:=Y8 hb0 ar _ (by rw [List.length_set,hal]) hset;rw [hsw,tna0] at this;exact this
 have hlow:I9 nb nq h ar i=I9 nb nq h ar c:=by
  rw [<-Hs,<-Hs,hac];congr 1;refine Fi (by simp) λj hj=> ?_
  have hj:j<(B0 nb ar i).length:=by simpa using hj
  have hv:=hai _ (Aj hj);rw [Bk _ hj,Bk _ (by simpa using hj),Jd _ _ _ _ hj];by_cases e2:ar-1-e=j
  ·rw [ip0 e2,e2];have h3:=hr.2 (nth (B0 nb ar i) j).toNat (by omega);exact (ke _ _ (by omega) (by omega)).1 h3.2.2.symm
  ·rw [in0 e2]
 have k1:=f3 o ho i hi;have k2:=f3 o ho c (by rw [l1];exact hc2);rw [er] at k1 k2;rw [hc1,tna0];have v1:=t1 _ (Aj hi);have v2:=t1 _ (Aj (show c<(nth b.Ops o).Table.length by rw [l1];exact hc2));exact (ke _ _ (by omega) (by omega)).2 (by rw [k1,k2,hlow])
theorem Bbc {b q:SAlgebra} {nb nq:Nat} (P:Pair b q nb nq) {h:List Int} (hh:Kp b q h):Ei q nq (Nh nq h):=by
 obtain ⟨f1,f2,f3⟩:=(Gt P).1 hh;obtain ⟨hb0,hb8,hq0,hq8⟩:=P.pos;have hq:ReadyA q nq:=⟨hh.1.2.1,P.sb,hq0,hq8⟩
 refine (Lb hq).2 ⟨Aed _ _,Ey _ _,λi hi k hk ha=> ?_⟩;obtain ⟨r,e1,hr3,l1,t1,_,hargs⟩:=hq.op hi;obtain ⟨hib,ea⟩:=Aqz hh.1.2.2.symm hi;obtain ⟨_,r',hr',e1',l1',l2',t1',t2',_⟩:=P.op hib;have err:r'=r:=by omega
 subst err;have hA:=(hargs k _).1 ha;have hal:=C7 nq r' k;have hp : ∀j,j<r' -> ∃y:Nat,y<nb/\nth h y=nth (B0 nq r' k) j:=by intro j hj;have hm:=of_decide_eq_true (hA _ (Aj (show j<(B0 nq r' k).length by omega)));obtain ⟨z,hz,hd,ez⟩:=Da.1 hm;obtain ⟨y,hy,ey⟩:=Cw.1 (of_decide_eq_true hd);have hv:=Ii hq0 r' k _ (Aj (show j<(B0 nq r' k).length by omega));exact ⟨y,by omega,by rw [ey];omega⟩
 obtain ⟨ys,hy1,hy2,hy3⟩ : ∃ys:List Int,ys.length=r'/\Bc ys nb/\ys.map (λx=>nth h x.toNat)=B0 nq r' k:=by
  refine ⟨(List.range r').map λj=>if hx : ∃y:Nat,y<nb/\nth h y=nth (B0 nq r' k) j then ((Classical.choose hx:Nat):Int) else 0,by simp,λz hz=> ?_,Fi (by simp [hal]) λj hj=> ?_⟩
  ·obtain ⟨j,hj,rfl⟩:=List.mem_map.1 hz;have hx:=hp j (List.mem_range.1 hj);simp only [dif_pos hx];have:=(Classical.choose_spec hx).1;omega
  ·have hj:j<r':=by simpa using hj
   have hx:=hp j hj;rw [Bk _ (by simpa using hj),Bk _ (by simpa using hj),F0 hj,dif_pos hx,tna0];exact (Classical.choose_spec hx).2
 obtain ⟨c,hc1,hc2⟩:=Ajg (m:=nb) r' ys hy1 hy2;have hya:=Y8 hb0 r' ys hy1 hy2;rw [hc1,tna0] at hya;have hlow:I9 nb nq h r' c=(k:Int):=by rw [<-Hs,hya,hy3,Af5 hq0 r' k (by omega)]
 have k1:=f3 i hib c (by rw [l1'];exact hc2);rw [show (nth b.Ops i).Arity.toNat=r' by omega,hlow,tna0] at k1;have hv:=t1' _ (Aj (show c<(nth b.Ops i).Table.length by rw [l1'];exact hc2));refine dtr0 (Da.2 ⟨Yt q i k,(hq.val hi hk).2,dtr0 ?_,rfl⟩);rw [<-(hq.val hi hk).1,<-k1];exact Aj (by omega)
theorem Bch {a q:SAlgebra} {n nq:Nat} (P:Pair a q n nq) {f I:List Int} (hf:Kp a q f) (hI:Ei q nq I):Ei a n (Ar n λx=>decide (nth f x∈I)):=by
 obtain ⟨f1,f2,f3⟩:=(Gt P).1 hf;obtain ⟨hn0,hn8,hq0,hq8⟩:=P.pos;have hq:ReadyA q nq:=⟨hf.1.2.1,P.sb,hq0,hq8⟩
 have hA:ReadyA a n:=⟨hf.1.1,P.sa,hn0,hn8⟩
 obtain ⟨_,_,hcl⟩:=(Lb hq).1 hI;refine (Lb hA).2 ⟨Aed _ _,Ey _ _,λi hi k hk ha=> ?_⟩;obtain ⟨r,e1,hr3,l1,t1,_,hargs⟩:=hA.op hi;obtain ⟨hiq,ea⟩:=Aqz hf.1.2.2 hi;obtain ⟨r',e1',hr3',l1',t1',_,hargs'⟩:=hq.op hiq;have err:r'=r:=by omega
 subst err;have hM:=(hargs k _).1 ha;have hal:=C7 n r' k;obtain ⟨c,hc1,hc2⟩:=Abm hn0 f1 f2 r' k;have hac:B0 nq r' c=(B0 n r' k).map λx=>nth f x.toNat:=by have:=Y8 hq0 r' ((B0 n r' k).map λx=>nth f x.toNat) (by rw [List.length_map,hal]) (Qu hn0 f1 f2 r' k);rw [Hs,hc1,tna0] at this;exact this
 have hc3:c<(nth q.Ops i).Table.length:=by rw [l1'];exact hc2
 have hin:=of_decide_eq_true (hcl i hiq c hc3 ((hargs' c _).2 λx hx=>by
  rw [hac] at hx;obtain ⟨y,hy,rfl⟩:=List.mem_map.1 hx;have hm:=of_decide_eq_true (hM y hy);obtain ⟨z,hz,hd,ez⟩:=Da.1 hm;have hd:=of_decide_eq_true hd;have hv:=Ii hn0 r' k y hy;have hw:=f2 _ (Aj (show y.toNat<f.length by omega));have ezz:z=y.toNat:=by omega
  subst ezz;refine dtr0 ?_;rw [show (((nth f y.toNat).toNat:Nat):Int)=nth f y.toNat by omega];exact hd))
 have k1:=f3 i hi k hk;rw [show (nth a.Ops i).Arity.toNat=r' by omega,hc1,tna0,(hq.val hiq hc3).1,(hA.val hi hk).1,tna0] at k1;exact dtr0 (Da.2 ⟨Yt a i k,(hA.val hi hk).2,dtr0 (by rw [k1];exact hin),rfl⟩)
theorem A13 {b c d:SAlgebra} {f g:List Int} {nb nc nd:Nat} (sb:b.Size=nb) (sc:c.Size=nc) (sd:d.Size=nd) (h1:Kp b c f) (h2:Kp b d g) (o1 : ∀y,y<nc -> ∃x,x<nb/\nth f x=(y:Int)) (o2 : ∀y,y<nd -> ∃x,x<nb/\nth g x=(y:Int)) (ke : ∀x y,x<nb->y<nb->(nth f x=nth f y↔nth g x=nth g y)) :
  ∃e,Ant c d e /\ ∀x,x<nb->nth e (nth f x).toNat=nth g x:=by
 obtain ⟨e,he,hk⟩:=Apq sb sc sd h1 h2 o1 λx y hx hy=>(ke x y hx hy).1
 obtain ⟨e',he',hk'⟩:=Apq sb sd sc h2 h1 o2 λx y hx hy=>(ke x y hx hy).2
 obtain ⟨q1,q2,_⟩:=(Gt (Kj he.1 sc sd)).1 he;obtain ⟨w1,w2,_⟩:=(Gt (Kj he'.1 sd sc)).1 he';have back : ∀y,y<nc->nth e' (nth e y).toNat=(y:Int):=by intro y hy;obtain ⟨x,hx,ex⟩:=o1 y hy;have:=hk x hx;rw [ex,tna0] at this;rw [this,hk' x hx,ex]
 have back' : ∀y,y<nd->nth e (nth e' y).toNat=(y:Int):=by intro y hy;obtain ⟨x,hx,ex⟩:=o2 y hy;have:=hk' x hx;rw [ex,tna0] at this;rw [this,hk x hx,ex]
 have u:uniq e:=Sc q1 λx y hx hy e1=>by have a1:=back x hx;rw [e1,back y hy] at a1;omega
 have u':uniq e':=Sc w1 λx y hx hy e1=>by have a1:=back' x hx;rw [e1,back' y hy] at a1;omega
 have:=A0y u q2;have:=A0y u' w2;exact ⟨e,⟨he,by omega,u⟩,hk⟩
theorem Bbu {e:List Int} {m:Nat} (hl:e.length=m) (hx:Bc e m) (hm : ∀x y,x<y->y<m->nth e x<nth e y):e=idL m:=by
 have low : ∀y,y<m->(y:Int)<=nth e y:=by
  intro y
  induction y with
  | zero=>intro hy;exact (hx _ (Aj (by omega))).1
  | succ y ih=> intro hy;have h1:=ih (by omega);have h2:=hm y (y+1) (by omega) hy;omega
 have up : ∀k,k<m->nth e (m-1-k)<=((m-1-k:Nat):Int):=by
  intro k
  induction k with
  | zero=> intro hk;have:=hx _ (Aj (show m-1-0<e.length by omega));omega
  | succ k ih=> intro hk;have h1:=ih (by omega);have h2:=hm (m-1-(k+1)) (m-1-k) (by omega) (by omega);omega
 refine Fi (by simp [idL,hl]) λy hy=> ?_
 have h1:=low y (by omega);have h2:=up (m-1-y) (by omega);rw [show m-1-(m-1-y)=y by omega] at h2;rw [Aqp (by omega)];omega
theorem Bas {c d:SAlgebra} {m:Nat} (sc:c.Size=m) (sd:d.Size=m) (h:Kp c d (idL m)):c=d:=by
 have P:=Kj h.1 sc sd;obtain ⟨hm0,hm8,_,_⟩:=P.pos;obtain ⟨_,_,f3⟩:=(Gt P).1 h;have hl:=congrArg List.length h.1.2.2;simp only [Fn,List.length_map] at hl;have hO:c.Ops=d.Ops:=Fi hl λi hi=>by
  obtain ⟨_,ea⟩:=Aqz h.1.2.2 hi;obtain ⟨_,r,hr,e1,l1,l2,t1,t2,_⟩:=P.op hi;have hT:(nth c.Ops i).Table=(nth d.Ops i).Table:=Fi (by omega) λk hk=>by have k1:=f3 i hi k hk;have hv:=t1 _ (Aj hk);rw [show (nth c.Ops i).Arity.toNat=r by omega,Au1 hm0 r k (by omega),tna0,Aqp (by omega)] at k1;omega
  generalize nth c.Ops i=o1 at ea hT;generalize nth d.Ops i=o2 at ea hT;cases o1;cases o2;dsimp only at ea hT;subst ea;subst hT;rfl
 have hS:c.Size=d.Size:=by omega
 cases c;cases d;dsimp only at hO hS;subst hO;subst hS;rfl
section
variable {a:SAlgebra} {n:Nat} {p:List Int}
theorem Ah6 (h:ReadyA a n) (hc:Ou a n p) {X:List Int} (hX:Ei a n X) (h0:X≠[]) :
  Ou (Sv a n X) X.length (Ge (Am X p))/\Ei (Ts a n p) (lst n p).length (Nh (lst n p).length (Am X (B6 n p)))/\Nh (lst n p).length (Am X (B6 n p))≠[] /\
  ∃e,Ant (Ts (Sv a n X) X.length (Ge (Am X p))) (Sv (Ts a n p) (lst n p).length (Nh (lst n p).length (Am X (B6 n p)))) e /\
    ∀x,x<X.length->nth (Nh (lst n p).length (Am X (B6 n p))) (nth e (nth (B6 X.length (Ge (Am X p))) x).toNat).toNat=nth (B6 n p) (nth X x).toNat:=by
 have hP:=hc.1;have hx:=hX.1;have hpl:=hP.1;obtain ⟨gb,hb,ub,lb⟩:=Akd h hX h0;obtain ⟨gq,hq⟩:=Ake h.good h.sz hc;have hh:=A0b hb hq;have Pb:Pair (Sv a n X) (Ts a n p) X.length (lst n p).length:=Kj hh.1 rfl rfl;obtain ⟨hb0,hb8,ht0,ht8⟩:=Pb.pos;have hk:(Am X p).length=X.length:=by simp [Am]
 have hH:(Am X (B6 n p)).length=X.length:=by simp [Am]
 have hv : ∀x,x<X.length->0<=nth X x/\nth X x<n:=λx hxx=>hx _ (Aj hxx)
 have ke : ∀x y,x<X.length->y<X.length->(nth (Ge (Am X p)) x=nth (Ge (Am X p)) y↔nth (Am X (B6 n p)) x=nth (Am X (B6 n p)) y):=λx y h1 h2=>by have v1:=hv x h1;have v2:=hv y h2;rw [Bb9 (by omega) (by omega),Dw h1,Dw h2,Dw h1,Dw h2,Aap hP (by omega) (by omega)]
 have pr:Kh X.length (Ge (Am X p)):=by have:=A59 (Am X p);rwa [hk] at this
 have cr:=A9k Pb hh pr ke;have hI:=Bbc Pb hh;obtain ⟨b1,b2⟩:=Aev hP;have hin:=Acz hx b1 b2;have hmem : ∀x,x<X.length->nth (Am X (B6 n p)) x∈Nh (lst n p).length (Am X (B6 n p)):=λx h1=>by have hm:=Aj (show x<(Am X (B6 n p)).length by omega);have:=hin _ hm;refine Da.2 ⟨(nth (Am X (B6 n p)) x).toNat,by omega,dtr0 ?_,by omega⟩;rw [show (((nth (Am X (B6 n p)) x).toNat:Nat):Int)=nth (Am X (B6 n p)) x by omega];exact hm
 have hI0:Nh (lst n p).length (Am X (B6 n p))≠[]:=List.ne_nil_of_mem (hmem 0 hb0);have rq:ReadyA (Ts a n p) (lst n p).length:=⟨gq,rfl,ht0,ht8⟩
 obtain ⟨gd,hd,ud,ld⟩:=Akd rq hI hI0;obtain ⟨gc,hcn⟩:=Ake gb rfl cr;obtain ⟨g1,g2,g3⟩:=(Lb rq).1 hI;have honto : ∀y,y<(Nh (lst n p).length (Am X (B6 n p))).length -> ∃x,x<X.length/\nth (Am X (B6 n p)) x=nth (Nh (lst n p).length (Am X (B6 n p))) y:=λy hy=>by obtain ⟨z,hz,hdz,ez⟩:=Da.1 (Aj hy);obtain ⟨x,hxx,ex⟩:=Cw.1 (of_decide_eq_true hdz);exact ⟨x,by omega,by rw [ex];exact ez.symm⟩
 generalize Nh (lst n p).length (Am X (B6 n p))=I at hI hmem hI0 hd ud ld g1 g2 g3 honto ⊢;generalize hHe:Am X (B6 n p)=H at hh ke hH hin hmem honto;have hat : ∀j,j<I.length->nth (plc (lst n p).length I I.length) (nth I j).toNat=(j:Int):=λj hj=>A22 g1 g2 _ (Nat.le_refl _) j hj
 have hbt : ∀x,x<X.length -> ∃j:Nat,j<I.length/\nth I j=nth H x/\nth (Am H (plc (lst n p).length I I.length)) x=(j:Int):=λx h1=>by obtain ⟨j,hj,ej⟩:=Cw.1 (hmem x h1);refine ⟨j,hj,ej,?_⟩;rw [Dw (by omega),<-ej,hat j hj]
 have he : ∀x,x<X.length->nth I (nth (Am H (plc (lst n p).length I I.length)) x).toNat=nth H x:=λx h1=>by obtain ⟨j,hj,ej,e2⟩:=hbt x h1;rw [e2,tna0,ej]
 have hbl:(Am H (plc (lst n p).length I I.length)).length=X.length:=by simp [Am,hH]
 have hbeta:=A71 (b:=Sv a n X) (nb:=X.length) rfl rfl rfl hd ud hh hbl (λz hz=>by obtain ⟨x,h1,ex⟩:=Cw.1 hz;obtain ⟨j,hj,_,e2⟩:=hbt x (by omega);rw [<-ex,e2];exact ⟨by omega,by omega⟩) he;obtain ⟨e,hiso,hev⟩:=A13 (nb:=X.length) rfl rfl rfl hcn hbeta (λy hy=>by
  obtain ⟨x,h1,e1,e2⟩:=Apa hy;exact ⟨x,h1,by have:=Asi pr hy;rw [e1,tna0] at this;exact this⟩) (λy hy=>by
  obtain ⟨x,h1,e1⟩:=honto y hy;refine ⟨x,h1,?_⟩;rw [Dw (by omega),e1,hat y hy]) (λx y h1 h2=>by
  rw [Aap pr h1 h2,ke x y h1 h2];constructor
  ·intro e1;rw [Dw (by omega),Dw (by omega),e1]
  ·intro e1;have:=he x h1;rw [e1,he y h2] at this;exact this.symm)
 refine ⟨cr,hI,hI0,e,hiso,λx h1=> ?_⟩;rw [hev x h1,he x h1,<-hHe,Dw h1]
theorem A8a (h:ReadyA a n) (hc:Ou a n p) {X:List Int} (hX:Ei a n X) (h0:X≠[]) (hs : ∀x∈X,nth p x.toNat∈X) :
  Ts (Sv a n X) X.length (Ge (Am X p))=Sv (Ts a n p) (lst n p).length (Nh (lst n p).length (Am X (B6 n p))):=by
 obtain ⟨cr,hI,hI0,e,hiso,hev⟩:=Ah6 h hc hX h0;have hP:=hc.1;have hpl:=hP.1;obtain ⟨hx,hxr,_⟩:=(Lb h).1 hX;have pr:=cr.1;have hk:(Am X p).length=X.length:=by simp [Am]
 have hIr:Mk (Nh (lst n p).length (Am X (B6 n p))):=Ey _ _;have hS:((lst X.length (Ge (Am X p))).length:Int)=((Nh (lst n p).length (Am X (B6 n p))).length:Int):=hiso.2.1;obtain ⟨q1,q2,_⟩:=(Gt (Kj hiso.1.1 (n:=(lst X.length (Ge (Am X p))).length) (m:=(Nh (lst n p).length (Am X (B6 n p))).length) rfl rfl)).1 hiso.1;rw [<-hS] at q2;have hfix : ∀x,x<X.length->nth (Ge (Am X p)) x=(x:Int)->nth p (nth X x).toNat=nth X x:=λx h1 e1=>by
  have v1:=hx _ (Aj h1);have w1:=hP.2 (nth X x).toNat (by omega);obtain ⟨x2,h2,e2⟩:=Cw.1 (hs _ (Aj h1));rw [Aa5 (by omega)] at e1;have h3:=A4c (v:=nth (Am X p) x) (L:=Am X p) (j:=x2) (by omega) (by rw [Dw h2,Dw h1,e2,w1.2.2]);have h4:nth X x<=nth X x2:=by
   rcases Nat.lt_or_ge x x2 with h5 | h5
   ·have:=Ir hxr h5 h2;omega
   ·have:x=x2:=by omega
    rw [this];exact Int.le_refl _
  rw [e2] at h4;omega
 have hid:e=idL (lst X.length (Ge (Am X p))).length:=Bbu q1 q2 λy y' hyy hy'=>by
  obtain ⟨x,h1,e1,f1⟩:=Apa (show y<(lst X.length (Ge (Am X p))).length by omega);obtain ⟨x',h1',e1',f1'⟩:=Apa hy';have hlt:=Ir (show Mk (lst X.length (Ge (Am X p))) from Ey _ _) hyy hy';have n1:=Asi pr (show y<(lst X.length (Ge (Am X p))).length by omega);have n1':=Asi pr hy';rw [e1,tna0] at n1;rw [e1',tna0] at n1';have k1:=hev x h1;have k1':=hev x' h1';rw [n1,tna0] at k1;rw [n1',tna0] at k1';have v1:=hx _ (Aj h1);have v1':=hx _ (Aj h1');have g1:=hfix x h1 f1;have g1':=hfix x' h1' f1';have hxx:=Ir hxr (show x<x' by omega) h1';obtain ⟨j,j1,j2,j3⟩:=Xz hP (show (nth X x).toNat<n by omega);obtain ⟨j',j1',j2',j3'⟩:=Xz hP (show (nth X x').toNat<n by omega);rw [g1] at j3;rw [g1'] at j3';have hjj:j<j':=by
   rcases Nat.lt_or_ge j j' with h5 | h5
   ·exact h5
   ·exfalso;rcases Nat.lt_or_ge j' j with h6 | h6
    ·have:=Ir (show Mk (lst n p) from Ey _ _) h6 j2;omega
    ·have:j=j':=by omega
     subst this;omega
  rw [j1] at k1;rw [j1'] at k1';have u1:=q2 _ (Aj (show y<e.length by omega));have u1':=q2 _ (Aj (show y'<e.length by omega));rcases Int.lt_or_le (nth e y) (nth e y') with h5 | h5
  ·exact h5
  ·exfalso;rcases Int.lt_or_le (nth e y') (nth e y) with h6 | h6
   ·have:=Ir hIr (show (nth e y').toNat<(nth e y).toNat by omega) (by omega);omega
   ·have h7:nth e y=nth e y':=by omega
    rw [h7] at k1;omega
 rw [hid] at hiso;exact Bas rfl hS.symm hiso.1
theorem Aim (_h:ReadyA a n) (hc:Ou a n p) {sub:List Int} (hx:Bc sub n) {x:Nat} (hxn:x<n):(x:Int)∈Sf n sub p↔nth (B6 n p) x∈Am sub (B6 n p):=by
 have hP:=hc.1;have e:(x:Int)∈Sf n sub p↔nth p x∈Am sub p:=by
  unfold Sf;rw [Da];constructor
  ·rintro ⟨i,_,hd,ei⟩;have:i=x:=by omega
   subst this;exact of_decide_eq_true hd
  ·intro hh;exact ⟨x,hxn,dtr0 hh,rfl⟩
 rw [e,Y2,Y2];constructor
 ·rintro ⟨j,hj,ej⟩;have:=hx _ (Aj hj);exact ⟨j,hj,(Aap hP (by omega) hxn).2 ej⟩
 ·rintro ⟨j,hj,ej⟩;have:=hx _ (Aj hj);exact ⟨j,hj,(Aap hP (by omega) hxn).1 ej⟩
theorem Beq (h:ReadyA a n) (hc:Ou a n p) {sub:List Int} (hs:Ei a n sub) (h0:sub≠[]) :
  Ei a n (Sf n sub p)/\Sf n sub p≠[]/\(∀x∈Sf n sub p,nth p x.toNat∈Sf n sub p)/\Nh (lst n p).length (Am (Sf n sub p) (B6 n p))=Nh (lst n p).length (Am sub (B6 n p)):=by
 have hP:=hc.1;have hx:=hs.1;have hpl:=hP.1;obtain ⟨b1,b2⟩:=Aev hP;have hin:=Acz hx b1 b2;obtain ⟨_,hI,_,_⟩:=Ah6 h hc hs h0;obtain ⟨gq,hq⟩:=Ake h.good h.sz hc;have hlen:0<sub.length:=List.length_pos_iff.2 h0;have hsub : ∀x∈sub,x∈Sf n sub p:=λx hxm=>by
  have hv:=hx x hxm;obtain ⟨j,hj,ej⟩:=Cw.1 hxm;have:=(Aim h hc hx (show x.toNat<n by omega)).2 (Y2.2 ⟨j,hj,by rw [ej]⟩)
  rwa [show ((x.toNat:Nat):Int)=x by omega] at this
 have hsatx:Bc (Sf n sub p) n:=Aed _ _;refine ⟨?_,List.ne_nil_of_mem (hsub _ (Aj hlen)),λx hxm=> ?_,?_⟩
 ·have:=Bch (Kj hq.1 h.sz rfl) hq hI;have e:Sf n sub p=Ar n λx=>decide (nth (B6 n p) x∈Nh (lst n p).length (Am sub (B6 n p))):=by
   refine Alx (Ey _ _) (Ey _ _) λz=> ?_
   rw [Da (p:=λx=>decide (nth (B6 n p) x∈Nh (lst n p).length (Am sub (B6 n p))))];have key : ∀x,x<n->((x:Int)∈Sf n sub p↔nth (B6 n p) x∈Nh (lst n p).length (Am sub (B6 n p))):=λx hxn=>by
    have hv:=b2 _ (Aj (show x<(B6 n p).length by omega));rw [Aim h hc hx hxn];unfold Nh;rw [Da];constructor
    ·intro hh;exact ⟨(nth (B6 n p) x).toNat,by omega,dtr0 (by rw [show (((nth (B6 n p) x).toNat:Nat):Int)=nth (B6 n p) x by omega];exact hh),by omega⟩
    ·rintro ⟨i,_,hd,ei⟩;rw [ei];exact of_decide_eq_true hd
   constructor
   ·intro hz;have hv:=hsatx z hz;refine ⟨z.toNat,by omega,dtr0 ((key _ (by omega)).1 ?_),by omega⟩;rw [show ((z.toNat:Nat):Int)=z by omega];exact hz
   ·rintro ⟨x,hxn,hd,rfl⟩;exact (key x hxn).2 (of_decide_eq_true hd)
  rw [e];exact this
 ·have hv:=hsatx x hxm;have h1:=hP.2 x.toNat (by omega);have:=(Aim h hc hx (show x.toNat<n by omega)).1 (by rw [show ((x.toNat:Nat):Int)=x by omega];exact hxm);rw [<-(Aap hP (show (nth p x.toNat).toNat<n by omega) (show x.toNat<n by omega)).2 h1.2.2] at this;have:=(Aim h hc hx (show (nth p x.toNat).toNat<n by omega)).2 this
  rwa [show (((nth p x.toNat).toNat:Nat):Int)=nth p x.toNat by omega] at this
 ·refine R4 λz _=> ?_
  rw [decide_eq_decide];constructor
  ·intro hh;obtain ⟨j,hj,ej⟩:=Y2.1 hh;have hm:=Aj hj;have hv:=hsatx _ hm;have:=(Aim h hc hx (show (nth (Sf n sub p) j).toNat<n by omega)).1 (by rw [show (((nth (Sf n sub p) j).toNat:Nat):Int)=nth (Sf n sub p) j by omega];exact hm)
   rwa [ej] at this
  ·intro hh;obtain ⟨j,hj,ej⟩:=Y2.1 hh;obtain ⟨i,hi,ei⟩:=Cw.1 (hsub _ (Aj hj));exact Y2.2 ⟨i,hi,by rw [ei];exact ej⟩
end
theorem Z0 {body:(Int×List Int)->Option ((Int×List Int) ⊕ List Int)} (N:Nat) (Inv:Nat->List Int->Prop) (h : ∀i q,i<N->Inv i q -> ∃q',body ((i:Int),q)=some (.inl (((i+1:Nat):Int),q'))/\Inv (i+1) q')
  (he : ∀q,Inv N q->body ((N:Int),q)=some (.inr q)) (q:List Int) (hq:Inv 0 q) : ∃r,Ak body (0,q)=some r/\Inv N r:=by
 obtain ⟨t,e,ht⟩:=Ds (body:=body) (λs => ∃i:Nat,s.1=(i:Int)/\i<=N/\Inv i s.2) (λs=>N-s.1.toNat) (λt=>Inv N t) (by
  rintro ⟨x,q⟩ ⟨i,rfl,h1,h2⟩;dsimp only at h2;by_cases hi:i<N
  ·obtain ⟨q',e,h3⟩:=h i q hi h2;exact .inl ⟨_,e,⟨i+1,rfl,hi,h3⟩,by dsimp only;omega⟩
  ·have:i=N:=by omega
   subst this;exact .inr ⟨_,he q h2,h2⟩) (s:=((0:Int),q)) ⟨0,rfl,Nat.zero_le _,hq⟩
 exact ⟨t,e,ht⟩
section
variable {a:SAlgebra} {n:Nat}
def A8c (a:SAlgebra) (n:Nat) (p:List Int) (x y:Nat):Prop := ∃o i e,o<a.Ops.length/\e<(nth a.Ops o).Arity.toNat/\i<(nth a.Ops o).Table.length/\(x:Int)=nth (nth a.Ops o).Table i/\(y:Int)=nth (nth a.Ops o).Table (Ax3 n p e i).toNat
variable (Inv:List Int->Prop) (hI : ∀q,Inv q->okP n q)
include hI
theorem A6x (ga:Ca a) (hn:a.Size=n) {p:List Int} (hp:okP n p) (hm : ∀q (x y:Nat),Inv q->x<n->y<n->A8c a n p x y->Inv (mg q (nth q x) (nth q y))) (h0:Inv p) : ∃t,Fj a p=some t/\Inv t/\(t=p↔Awr a n p):=by
 have h8:=ga.2.1;have hpl:=hp.1;obtain ⟨t0,f1,f2,f3⟩:=Azh ga hn hp;have key : ∃t,Fj a p=some t/\Inv t:=by
  unfold Fj;rw [Au9 _ (by rw [At];omega)];simp only [obs0];obtain ⟨t,e1,e2⟩:=Z0 (body:=Dr a p) a.Ops.length (λ_=>Inv) (λo q ho hq=>by
   obtain ⟨r,r3,hr,hT,hTi,h512,hn0,hn8⟩:=opX ga hn ho;have h20:=ga.2.2.1;obtain ⟨t,e1,e2⟩:=Z0 (body:=Cy a p (o:Int)) (nth a.Ops o).Table.length (λ_=>Inv) (λi q hi hq=>by
    have hal:=C7 n r i;obtain ⟨t,e1,e2⟩:=Z0 (body:=Cx a p (o:Int) (i:Int) (B0 n r i)) r (λ_=>Inv) (λk q hk hq=>by
     have hqo:=hI q hq;have hin:=A2x hn0 hp (i:=i) hk;have hsw:=Ys (n:=n) p r i k (by omega) hk;obtain ⟨c,hc,hc2⟩:=Apb hn0 hp (r:=r) (i:=i) (e:=r-1-k) (by omega) (by omega);have y0:=Ii hn0 r i _ (Aj (show k<(B0 n r i).length by omega));have y1:=hTi _ (Aj (show i<(nth a.Ops o).Table.length from hi));have y2:=hTi _ (Aj (show c<(nth a.Ops o).Table.length by omega));have hql:=hqo.1;have hv:=A5f hn8 hn ho (xs:=(B0 n r i).set k (nth p (nth (B0 n r i) k).toNat)) (by rw [List.length_set];omega) hin (by rw [List.length_set,hal];exact hT);rw [hsw,hc,tna0] at hv;have hu:=Zm (p:=q) (by omega) (X:=nth (nth a.Ops o).Table i) (Y:=nth (nth a.Ops o).Table c) (by omega) (by omega);unfold Cx;dsimp only;rw [ip0 (by omega),Au9 _ (by rw [At];omega)];simp only [obs0,tna0];rw [Ae (by omega),Ae (by omega),Ae (by omega),Ae (by omega),Ae (by omega),hv];simp only [obs0];rw [hu];simp only [obs0];rw [Ae (by omega)];refine ⟨_,rfl,hm q (nth (nth a.Ops o).Table i).toNat (nth (nth a.Ops o).Table c).toNat hq (by omega) (by omega) ⟨o,i,r-1-k,ho,by omega,hi,by omega,?_⟩⟩;rw [hc,tna0];omega) (λq _=>by
     unfold Cx;dsimp only;rw [in0 (by omega)]) q hq
    refine ⟨t,?_,e2⟩;unfold Cy;dsimp only;rw [Ae (by omega),tna0,ip0 (by omega),Ae (by omega),hn,hr,Ajr hn0 hn8 r3 (by omega)];simp only [obs0];rw [e1];simp only [obs0];rw [Ae (by omega)];rfl) (λq _=>by
    unfold Cy;dsimp only;rw [Ae (by omega),tna0,in0 (by omega)]) q hq
   refine ⟨t,?_,e2⟩;unfold Dr;dsimp only;rw [ip0 (by omega),e1];simp only [obs0];rw [Ae (by omega)];rfl) (λq _=>by
   unfold Dr;dsimp only;rw [in0 (by omega)]) p h0
  rw [e1];exact ⟨t,rfl,e2⟩
 obtain ⟨t,e,ht⟩:=key;rw [f1] at e;cases e;exact ⟨t0,f1,ht,f3⟩
theorem A2k (ga:Ca a) (hn:a.Size=n) (hm : ∀p q (x y:Nat),Inv p->Inv q->x<n->y<n->A8c a n p x y->Inv (mg q (nth q x) (nth q y))) {p:List Int} (h0:Inv p) : ∃t,Ku a p=some t/\Inv t:=by
 have h8:=ga.2.1;have h1:=ga.1;unfold Ku;obtain ⟨t,e1,e2⟩:=Z0 (body:=Fw a) n (λ_=>Inv) (λi q hi hq=>by
  obtain ⟨t,e,ht,_⟩:=A6x Inv hI ga hn (hI q hq) (λq' x y h hx hy hp=>hm q q' x y hq h hx hy hp) hq;unfold Fw;dsimp only;rw [ip0 (by omega),e];simp only [obs0];rw [Ae (by omega)];exact ⟨t,rfl,ht⟩) (λq _=>by
  unfold Fw;dsimp only;rw [in0 (by omega)]) p h0
 rw [e1];exact ⟨t,rfl,e2⟩
end
section
variable {a:SAlgebra} {n:Nat}
theorem Awh (n:Nat):okP n (Aiy n):=by refine ⟨by simp [Aiy],λz hz=> ?_⟩;unfold Aiy at hz;simp only [List.mem_map,List.mem_range] at hz;obtain ⟨i,hi,rfl⟩:=hz;omega
theorem Ao5 (ga:Ca a) (hn:a.Size=n) {x y:Nat} (hx:x<n) (hy:y<n) : ∃t,G9 a (x:Int) (y:Int)=some t/\okP n t:=by have h8:=ga.2.1;have hu:=Awh n;have hul:=hu.1;unfold G9;rw [hn,Af9 (by omega)];simp only [obs0];rw [Zm (by omega) (by omega) (by omega),tna0,tna0];simp only [obs0];obtain ⟨t,e,ht⟩:=A2k (okP n) (λ_ h=>h) ga hn (λp q x y _ hq hx hy _=>Az8 hq hx hy) (Az8 hu hx hy);rw [e];exact ⟨t,rfl,ht⟩
theorem A3e {p q:List Int} (h8:n<=1000) (hp:okP n p) (hq:okP n q) : ∃t,Mo p q=some t/\okP n t:=by
 have hpl:=hp.1;have hql:=hq.1;unfold Mo;rw [Au9 _ (by rw [At];omega)];simp only [obs0];obtain ⟨t,e1,e2⟩:=Z0 (body:=Gs q) n (λ_=>okP n) (λi w hi hw=>by
  have hwl:=hw.1;have hqi:=hq.2 _ (Aj (show i<q.length by omega));unfold Gs;dsimp only;rw [ip0 (by omega),Ae (by omega),tna0,Zm (by omega) (by omega) (by omega),tna0];simp only [obs0];rw [Ae (by omega)];exact ⟨_,rfl,Az8 hw hi (by omega)⟩) (λw _=>by
  unfold Gs;dsimp only;rw [in0 (by omega)]) p hp
 rw [e1];exact ⟨t,rfl,e2⟩
theorem Auy {L:List (List Int)} {p:List Int} (h8:n<=1000) (hL:L.length<=100000) (hr : ∀r∈L,r.length=n) (hp:p.length=n) : ∃M,Lw L p=some M/\(M=L \/ ∃k,k<=L.length/\M=L.take k++[p]++L.drop k):=by
 have hLim:=At;unfold Lw;obtain ⟨t,e,t0,t1⟩:=Ds (body:=Jn L p) (λs=>0<=s/\s<=L.length) (λs=>L.length-s.toNat) (λt=>0<=t/\t<=L.length) (by
  rintro s ⟨s0,s1⟩;obtain ⟨i,rfl⟩:=Int.eq_ofNat_of_zero_le s0;unfold Jn;by_cases hi:i<L.length
  ·have hri:=hr _ (Aj hi);rw [ip0 (by omega),Ae (by omega),tna0,Au0 (by omega),Au0 (by omega)];simp only [obs0];split
   ·rw [Ae (by omega)];exact .inl ⟨_,rfl,⟨by omega,by omega⟩,by omega⟩
   ·rw [Ae (by omega)];split
    ·rw [Ae (by omega),A0d (by omega) (by omega)];simp only [obs0];split
     ·rw [Ae (by omega)];exact .inl ⟨_,rfl,⟨by omega,by omega⟩,by omega⟩
     ·exact .inr ⟨_,rfl,by omega,by omega⟩
    ·exact .inr ⟨_,rfl,by omega,by omega⟩
  ·rw [in0 (by omega)];exact .inr ⟨_,rfl,by omega,by omega⟩) (s:=(0:Int)) ⟨Int.le_refl _,by omega⟩
 rw [e];simp only [obs0];obtain ⟨k,rfl⟩:=Int.eq_ofNat_of_zero_le t0;have fin : ∃M,(ask (0<=(0:Int)/\0<=(k:Int)/\(k:Int)<=((L.length:Nat):Int)) <|
  ask ((Aw (List Int)).length+(List.take ((k:Int).toNat-Int.toNat 0) (List.drop (Int.toNat 0) L)).length<=LIM) <|
  ask ((Aw (List Int)++List.take ((k:Int).toNat-Int.toNat 0) (List.drop (Int.toNat 0) L)).length+([p]).length<=LIM) <|
  ask (0<=(k:Int)/\(k:Int)<=(L.length:Int)/\(L.length:Int)<=((L.length:Nat):Int)) <|
  ask ((Aw (List Int)++List.take ((k:Int).toNat-Int.toNat 0) (List.drop (Int.toNat 0) L)++[p]).length+(List.take ((L.length:Int).toNat-(k:Int).toNat) (List.drop (k:Int).toNat L)).length<=LIM) <|
  some (Aw (List Int)++List.take ((k:Int).toNat-Int.toNat 0) (List.drop (Int.toNat 0) L)++[p]++List.take ((L.length:Int).toNat-(k:Int).toNat) (List.drop (k:Int).toNat L)))=some M/\(M=L \/ ∃k,k<=L.length/\M=L.take k++[p]++L.drop k):=by
  rw [Ae (by omega),Ae (by simp [Aw];omega),Ae (by simp [Aw];omega),Ae (by omega),Ae (by simp [Aw];omega)];refine ⟨_,rfl,.inr ⟨k,by omega,?_⟩⟩;rw [tna0,tna0,List.take_of_length_le (l:=List.drop k L) (by simp)];rfl
 by_cases hk:k<L.length
 ·have hri:=hr _ (Aj hk);rw [ip0 (by omega),Ae (by omega),tna0,Apy (by omega)];simp only [obs0];by_cases hs:nth L k=p
  ·rw [dtr0 hs];exact ⟨L,rfl,.inl rfl⟩
  ·rw [dfa0 hs];exact fin
 ·rw [in0 (by omega)];exact fin
theorem Azl {L M:List (List Int)} {p:List Int} (hM:M=L \/ ∃k,k<=L.length/\M=L.take k++[p]++L.drop k) (hL : ∀r∈L,okP n r) (hp:okP n p):(∀r∈M,okP n r)/\L.length<=M.length/\M.length<=L.length+1:=by
 rcases hM with rfl | ⟨k,hk,rfl⟩
 ·exact ⟨hL,Nat.le_refl _,Nat.le_succ _⟩
 ·refine ⟨λr hr=> ?_,by simp;omega,by simp;omega⟩;rcases List.mem_append.1 hr with h | h
  ·rcases List.mem_append.1 h with h | h
   ·exact hL r (List.mem_of_mem_take h)
   ·rw [List.mem_singleton.1 h];exact hp
  ·exact hL r (List.mem_of_mem_drop h)
theorem A29 (ga:Ca a) (hn:a.Size=n) {most:Nat} (hm:most<=10000) : ∃L,J3 a (most:Int)=some L/\1<=L.length/\L.length<=most+1 /\ ∀r∈L,okP n r:=by
 have hLim:=At;have h8:=ga.2.1;have hu:=Awh n;unfold J3;have l1 : ∀x,x<n -> ∀L:List (List Int),L.length<=8*x->(∀r∈L,okP n r) -> ∃M,Ak (Gp a (most:Int) (x:Int)) (0,L)=some M/\M.length<=8*(x+1) /\ ∀r∈M,okP n r:=by
  intro x hx L hL hr;obtain ⟨M,e,h1,h2⟩:=Ds (body:=Gp a (most:Int) (x:Int)) (λs => ∃i:Nat,s.1=(i:Int)/\i<=x/\s.2.length<=8*x+i /\ ∀r∈s.2,okP n r) (λs=>x-s.1.toNat) (λM=>M.length<=8*(x+1) /\ ∀r∈M,okP n r) (by
   rintro ⟨y,M⟩ ⟨i,rfl,g1,g2,g3⟩;dsimp only at g2 g3;unfold Gp;dsimp only;by_cases hi:i<x
   ·obtain ⟨t,e,ht⟩:=Ao5 ga hn hx (show i<n by omega);obtain ⟨M',e',hM⟩:=Auy (n:=n) (L:=M) (p:=t) (by omega) (by omega) (λr hr=>(g3 r hr).1) ht.1;obtain ⟨q1,q2,q3⟩:=Azl hM g3 ht;rw [ip0 (by omega),e];simp only [obs0];rw [e'];simp only [obs0];rw [Ae (by omega)];exact .inl ⟨_,rfl,⟨i+1,rfl,hi,by dsimp only;omega,q1⟩,by dsimp only;omega⟩
   ·rw [in0 (by omega)];exact .inr ⟨_,rfl,by omega,g3⟩) (s:=((0:Int),L)) ⟨0,rfl,Nat.zero_le _,by dsimp only;omega,hr⟩
  exact ⟨M,e,h1,h2⟩
 obtain ⟨P,e1,hP1,hP2⟩:=Ds (body:=Ik a (most:Int)) (λs => ∃i:Nat,s.2=(i:Int)/\i<=n/\s.1.length<=8*i /\ ∀r∈s.1,okP n r) (λs=>n-s.2.toNat) (λM=>M.length<=64 /\ ∀r∈M,okP n r) (by
  rintro ⟨M,y⟩ ⟨i,rfl,g1,g2,g3⟩;dsimp only at g2 g3;unfold Ik;dsimp only;by_cases hi:i<n
  ·obtain ⟨M',e,q1,q2⟩:=l1 i hi M g2 g3;rw [ip0 (by omega),e];simp only [obs0];rw [Ae (by omega)];exact .inl ⟨_,rfl,⟨i+1,rfl,hi,q1,q2⟩,by dsimp only;omega⟩
  ·rw [in0 (by omega)];exact .inr ⟨_,rfl,by omega,g3⟩) (s:=(Aw (List Int),(0:Int))) ⟨0,rfl,Nat.zero_le _,by simp [Aw],λr hr=>by simp [Aw] at hr⟩
 rw [e1];simp only [obs0];rw [hn,Af9 (by omega)];simp only [obs0];have l3 : ∀x (W O:List (List Int)),x<W.length->W.length=O.length->1<=O.length->O.length<=most+1->(∀r∈W,okP n r)->(∀r∈O,okP n r) -> ∃W' O',Ak (Gm (most:Int) P (x:Int)) (0,W,O)=some (W',O')/\W.length<=W'.length/\W'.length=O'.length/\1<=O'.length/\O'.length<=most+1/\(∀r∈W',okP n r)/\(∀r∈O',okP n r):=by
  intro x W O hx hWO h1 hO hW hOr;obtain ⟨⟨W',O'⟩,e,h⟩:=Ds (body:=Gm (most:Int) P (x:Int)) (λs => ∃i:Nat,s.1=(i:Int)/\i<=P.length/\W.length<=s.2.1.length/\s.2.1.length=s.2.2.length/\1<=s.2.2.length/\s.2.2.length<=most+1/\(∀r∈s.2.1,okP n r)/\(∀r∈s.2.2,okP n r)) (λs=>P.length-s.1.toNat)
   (λs=>W.length<=s.1.length/\s.1.length=s.2.length/\1<=s.2.length/\s.2.length<=most+1/\(∀r∈s.1,okP n r)/\(∀r∈s.2,okP n r)) (by
   rintro ⟨y,W',O'⟩ ⟨i,rfl,g1,g2,g3,g4,g5,g6,g7⟩;dsimp only at g2 g3 g4 g5 g6 g7;unfold Gm;dsimp only;have stop : ∃t,some (Sum.inr (W',O'):(Int×(List (List Int))×(List (List Int))) ⊕ ((List (List Int))×(List (List Int))))=some (.inr t)/\W.length<=t.1.length/\t.1.length=t.2.length/\1<=t.2.length/\t.2.length<=most+1/\(∀r∈t.1,okP n r)/\(∀r∈t.2,okP n r):=⟨_,rfl,g2,g3,g4,g5,g6,g7⟩
   by_cases hi:i<P.length
   ·rw [ip0 (by omega)];by_cases hm2:O'.length<=most
    ·rw [ip0 (by omega)];simp only [obs0];have hWx:=g6 _ (Aj (show x<W'.length by omega));have hPi:=hP2 _ (Aj hi);obtain ⟨t,e,ht⟩:=A3e (by omega) hWx hPi;obtain ⟨M',e',hM⟩:=Auy (n:=n) (L:=O') (p:=t) (by omega) (by omega) (λr hr=>(g7 r hr).1) ht.1;obtain ⟨q1,q2,q3⟩:=Azl hM g7 ht;rw [Ae (by omega),Ae (by omega),tna0,tna0,e];simp only [obs0];rw [e'];simp only [obs0];by_cases hg:M'.length>O'.length
     ·rw [ip0 (by omega),Ae (by simp;omega),Ae (by omega)];refine .inl ⟨_,rfl,⟨i+1,rfl,hi,by simp;omega,by simp;omega,by dsimp only;omega,by dsimp only;omega,λr hr=> ?_,q1⟩,by dsimp only;omega⟩;rcases List.mem_append.1 hr with h | h
      ·exact g6 r h
      ·rw [List.mem_singleton.1 h];exact ht
     ·rw [in0 (by omega),Ae (by omega)];exact .inl ⟨_,rfl,⟨i+1,rfl,hi,g2,g3,g4,g5,g6,g7⟩,by dsimp only;omega⟩
    ·rw [in0 (by omega)];exact .inr stop
   ·rw [in0 (by omega)];exact .inr stop) (s:=((0:Int),W,O)) ⟨0,rfl,Nat.zero_le _,Nat.le_refl _,hWO,h1,hO,hW,hOr⟩
  exact ⟨W',O',e,h⟩
 obtain ⟨L,e2,h⟩:=Ds (body:=Ip (most:Int) P) (λs => ∃i:Nat,s.2.2=(i:Int)/\i<=s.1.length/\s.1.length=s.2.1.length/\1<=s.2.1.length/\s.2.1.length<=most+1/\(∀r∈s.1,okP n r)/\(∀r∈s.2.1,okP n r)) (λs=>most+1-s.2.2.toNat) (λL=>1<=L.length/\L.length<=most+1 /\ ∀r∈L,okP n r) (by
  rintro ⟨W,O,y⟩ ⟨i,rfl,g1,g2,g3,g4,g5,g6⟩;dsimp only at g1 g2 g3 g4 g5 g6;unfold Ip;dsimp only;by_cases hi:i<W.length
  ·rw [ip0 (by omega)];by_cases hm2:O.length<=most
   ·rw [ip0 (by omega)];simp only [obs0];obtain ⟨W',O',e,q1,q2,q3,q4,q5,q6⟩:=l3 i W O hi g2 g3 g4 g5 g6;rw [e];simp only [obs0];rw [Ae (by omega)];exact .inl ⟨_,rfl,⟨i+1,rfl,by dsimp only;omega,q2,q3,q4,q5,q6⟩,by dsimp only;omega⟩
   ·rw [in0 (by omega)];exact .inr ⟨_,rfl,g3,g4,g6⟩
  ·rw [in0 (by omega)];exact .inr ⟨_,rfl,g3,g4,g6⟩) (s:=([Aiy n],[Aiy n],(0:Int))) ⟨0,rfl,by simp,rfl,by simp,by simp,λr hr=>by rw [List.mem_singleton.1 hr];exact hu,λr hr=>by rw [List.mem_singleton.1 hr];exact hu⟩
 rw [e2];exact ⟨L,rfl,h⟩
end
theorem A9u (a b:Int):Fu a b=some (if a<b then a else b):=by unfold Fu;split<;>rfl
theorem Abv {c:Sl1Cur} {k:Nat} (h:Cur k c) (hk:k<=600000000) (n:Int) : ∃p d,Dc c n=some (p,d)/\Cur (k+100) d/\p.length<=10:=by
 have hL:=At;unfold Dc;rw [A1q];simp only [obs0];rw [A9u];simp only [obs0];obtain ⟨m,hm,m9⟩ : ∃m:Nat,(if (if n>0 then n else 0)<9 then (if n>0 then n else 0) else 9)=(m:Int)/\m<=9:= ⟨(if (if n>0 then n else 0)<9 then (if n>0 then n else 0) else 9).toNat,by split<;>split<;>omega,by split<;>split<;>omega⟩;rw [hm,Af9 (by omega)];simp only [obs0];obtain ⟨r,d,e,hd,r0,r1⟩:=Fb h (by omega) 4;rw [e];simp only [obs0];obtain ⟨⟨p,d2⟩,e2,hp,hd2⟩:=Ds (body:=Dl) (λs => ∃i:Nat,s.1=(i:Int)/\i<=4/\okP m s.2.1/\Cur (k+2+4*(4-i)) s.2.2) (λs=>s.1.toNat) (λt=>okP m t.1/\Cur (k+20) t.2) (by
  rintro ⟨x,p,c⟩ ⟨i,rfl,g1,g2,g3⟩;dsimp only at g2 g3;have hpl:=g2.1;unfold Dl;dsimp only;by_cases hi:(i:Int)>0
  ·rw [ip0 hi];by_cases h1:(p.length:Int)>1
   ·rw [ip0 h1];simp only [obs0];obtain ⟨r,d,e,hd,r0,r1⟩:=Fb g3 (by omega) (p.length:Int);rw [e];simp only [obs0];obtain ⟨r',d',e',hd',r0',r1'⟩:=Fb hd (by omega) (p.length:Int);rw [e'];simp only [obs0];rw [Zm (by omega) (by omega) (by omega)];simp only [obs0];rw [Ae (by omega)];exact .inl ⟨_,rfl,⟨i-1,by dsimp only;omega,by omega,Az8 g2 (by omega) (by omega),hd'.mono (by omega)⟩,by dsimp only;omega⟩
   ·rw [in0 h1];exact .inr ⟨_,rfl,g2,g3.mono (by omega)⟩
  ·rw [in0 hi];exact .inr ⟨_,rfl,g2,g3.mono (by omega)⟩) (s:=(r,Aiy m,d)) ⟨r.toNat,by dsimp only;omega,by omega,Awh m,hd.mono (by omega)⟩
 rw [e2];simp only [obs0];dsimp only at hp hd2;have hpl:=hp.1;obtain ⟨w,d3,e3,hd3,_⟩:=Fb hd2 (by omega) 24;rw [e3];simp only [obs0];by_cases c0:w=0
 ·rw [ip0 c0,Ae (by simp;omega)];exact ⟨_,_,rfl,hd3.mono (by omega),by simp;omega⟩
 rw [in0 c0];by_cases c1:w=1
 ·rw [ip0 c1];by_cases c2:(p.length:Int)>0
  ·rw [ip0 c2];obtain ⟨v,d4,e4,hd4,v0,v1⟩:=Fb hd3 (by omega) (p.length:Int);rw [e4];simp only [obs0];rw [Ae (by omega)];obtain ⟨u,d5,e5,hd5,_⟩:=K3 hd4 (by omega) [-1,(p.length:Int),(p.length:Int)-1,0] (by simp);rw [e5];simp only [obs0];rw [Ae (by omega)];exact ⟨_,_,rfl,hd5.mono (by omega),by rw [List.length_set];omega⟩
  ·rw [in0 c2];exact ⟨_,_,rfl,hd3.mono (by omega),by omega⟩
 ·rw [in0 c1];exact ⟨_,_,rfl,hd3.mono (by omega),by omega⟩
theorem Ald {c:Sl1Cur} {k:Nat} (h:Cur k c) (hk:k<=500000000) {a:SAlgebra} (ha:Hg a) : ∃p d,Dx c a=some (p,d)/\Cur (k+200) d/\p.length<=10:=by
 have hL:=At;unfold Dx;rw [Arw ha];simp only [obs0];by_cases hg:Ca a
 ·rw [dtr0 hg];simp only [if_true];obtain ⟨b,d,e,hd⟩:=Az2 h (by omega) 5;rw [e];simp only [obs0];by_cases hb:b=true
  ·rw [ip0 hb];obtain ⟨p,d2,e2,hd2,hp⟩:=Abv hd (by omega) a.Size;rw [e2];exact ⟨p,d2,rfl,hd2.mono (by omega),hp⟩
  ·rw [in0 hb];simp only [obs0];have h8:=hg.2.1;obtain ⟨n,hn⟩:=Int.eq_ofNat_of_zero_le (show 0<=a.Size by have:=hg.1;omega);obtain ⟨L,e2,h1,h2,h3⟩:=A29 hg hn (most:=200) (by omega);have e2':J3 a 200=some L:=e2;rw [e2'];simp only [obs0];obtain ⟨v,d4,e4,hd4,v0,v1⟩:=Fb hd (by omega) (L.length:Int);rw [e4];simp only [obs0];have hv:=h3 _ (Aj (show v.toNat<L.length by omega));have hvl:=hv.1;rw [Ae (by omega),Au9 _ (by omega)];exact ⟨_,_,rfl,hd4.mono (by omega),by omega⟩
 ·rw [dfa0 hg];simp only [Bool.false_eq_true,if_false];obtain ⟨p,d2,e2,hd2,hp⟩:=Abv h (by omega) a.Size;rw [e2];exact ⟨p,d2,rfl,hd2.mono (by omega),hp⟩
theorem Ba5 {xss:List (List Int)} {l:List Int} (hn:xss.length<=1000000) (hl:l.length<=1000) : ∃ys,My xss l=some ys/\ys.length=xss.length+1 /\ ∀r∈ys,r=l\/r∈xss:=by
 have hL:=At;unfold My;obtain ⟨k,e,m,rfl,hk⟩:=Ds (body:=In xss l) (λk => ∃n:Nat,k=(n:Int)/\n<=xss.length) (λk=>k.toNat) (λk => ∃n:Nat,k=(n:Int)/\n<=xss.length) (λk hk=>by
  obtain ⟨n,rfl,hn1⟩:=hk;unfold In;by_cases h0:n=0
  ·subst h0;right;rw [in0 (by omega)];exact ⟨_,rfl,0,rfl,by omega⟩
  ·have et:((n:Int)-1).toNat=n-1:=by omega
   rw [ip0 (by omega),Ae (by omega),Ae (by omega),et];by_cases c1:(l.length:Int)<((nth xss (n-1)).length:Int)
   ·left;rw [ip0 c1,Ae (by omega)];exact ⟨_,rfl,⟨n-1,by omega,by omega⟩,by omega⟩
   ·rw [in0 c1,Ae (by omega),Ae (by omega)];by_cases c2:(l.length:Int)=((nth xss (n-1)).length:Int)
    ·rw [ip0 c2,Ae (by omega),Ae (by omega),A0d (by omega) (by omega)];simp only [obs0];by_cases c3:Bcw l (nth xss (n-1))
     ·left;rw [dtr0 c3,ip0 rfl,Ae (by omega)];exact ⟨_,rfl,⟨n-1,by omega,by omega⟩,by omega⟩
     ·right;rw [dfa0 c3,in0 (by simp)];exact ⟨_,rfl,n,rfl,hn1⟩
    ·right;rw [in0 c2];exact ⟨_,rfl,n,rfl,hn1⟩) (s:=(xss.length:Int)) ⟨_,rfl,Nat.le_refl _⟩
 rw [e];simp only [obs0];have e0:Int.toNat 0=0:=rfl;rw [Ae (by omega),Ae (by simp [Aw];omega),Ae (by simp [Aw];omega),Ae (by omega),Ae (by simp [Aw];omega)];have ez:Aw (List Int)++List.take ((m:Int).toNat-Int.toNat 0) (List.drop (Int.toNat 0) xss)++[l]++List.take ((xss.length:Int).toNat-(m:Int).toNat) (List.drop (m:Int).toNat xss)=xss.take m++l::xss.drop m:=by have et:List.take (xss.length-m) (List.drop m xss)=List.drop m xss:=List.take_of_length_le (by simp);simp [Aw,et]
 rw [ez];refine ⟨_,rfl,by simp;omega,λr hr=> ?_⟩;rcases List.mem_append.1 hr with h1 | h1
 ·exact .inr (List.mem_of_mem_take h1)
 ·rcases List.mem_cons.1 h1 with h2 | h2
  ·exact .inl h2
  ·exact .inr (List.mem_of_mem_drop h2)
def Aio (S:Nat->Bool):Nat->Nat
 | 0=>0
 | n+1=>if S n then 2^n+Aio S n else Aio S n
theorem Arq (S:Nat->Bool) : ∀n,Aio S n<2^n
 | 0=>by simp [Aio]
 | n+1=>by have:=Arq S n;simp only [Aio,Nat.pow_succ];split<;>omega
theorem Aup (S:Nat->Bool) : ∀n i,i<n->Aa1 (Aio S n) i=S i
 | 0,_,h=>by omega
 | n+1,i,h=>by
   have hl:=Arq S n;rw [Ay5];simp only [Aio];by_cases e:i=n
   ·subst e;cases hS:S i with
    | true=>rw [ip0 rfl,Nat.testBit_two_pow_add_eq,Nat.testBit_lt_two_pow hl];rfl
    | false=>rw [in0 (by simp),Nat.testBit_lt_two_pow hl]
   ·have ih:=Aup S n i (by omega);rw [Ay5] at ih;cases hS:S n with
    | true=>rw [ip0 rfl,Nat.testBit_two_pow_add_gt (by omega),ih]
    | false=>rw [in0 (by simp),ih]
section
variable {a:SAlgebra} {n:Nat}
theorem Beb (h:ReadyA a n):Ei a n (Ar n λ_=>true):= (Lb h).2 ⟨Aed _ _,Ey _ _,λ_i hi _k hk _=>dtr0 (Da.2 ⟨_,(h.val hi hk).2,rfl,rfl⟩)⟩
theorem Bc9 (h:ReadyA a n) : ∃L,Ph a=some L/\0<L.length/\L.length<=1000000 /\ ∀r∈L,r.length<=8:=by
 have hL:=At;have h8:=h.le;have hp:2^n<=256:=Nat.le_trans (Nat.pow_le_pow_right (by omega) h8) (by decide);have hm0:=Arq (λ_=>true) n;have hmb:Ar n (Aa1 (Aio (λ_=>true) n))=Ar n λ_=>true:=R4 λi hi=>Aup _ n i hi
 generalize Aio (λ_=>true) n=m0 at hm0 hmb;unfold Ph;obtain ⟨ys,e,h1,h2,h3⟩:=Ds (body:=Jf a) (λs => ∃i:Nat,s.1=(i:Int)/\i<=2^n/\s.2.length<=i/\(∀r∈s.2,r.length<=8)/\(m0<i->0<s.2.length)) (λs=>2^n-s.1.toNat) (λys=>0<ys.length/\ys.length<=1000000 /\ ∀r∈ys,r.length<=8) (λs hs'=>by
  obtain ⟨x,xs⟩:=s;obtain ⟨i,hi,hil,hxl,hr,hpm⟩:=hs';simp only at hi hil hxl hr hpm;subst hi;have hsl:=Cz n (Aa1 i);unfold Jf;dsimp only;rw [h.sz];by_cases hlt:i<2^n
  ·left;rw [Ae (by omega),A4l (by omega),ip0 (by omega),A9p (by omega) hlt];simp only [obs0];rw [Axg h (by omega)];simp only [obs0];by_cases hd:Ei a n (Ar n (Aa1 i))
   ·rw [dtr0 hd,ip0 rfl];obtain ⟨ys,e,g1,g2⟩:=Ba5 (xss:=xs) (l:=Ar n (Aa1 i)) (by omega) (by omega);rw [e];simp only [obs0];rw [Ae (by omega)];refine ⟨_,rfl,⟨i+1,rfl,hlt,by simp only;omega,λr hrm=> ?_,λ_=>by simp only;omega⟩,by simp only;omega⟩;rcases g2 r hrm with h4 | h4
    ·rw [h4];omega
    ·exact hr r h4
   ·rw [dfa0 hd,in0 (by simp),Ae (by omega)];refine ⟨_,rfl,⟨i+1,rfl,hlt,by simp only;omega,hr,λh4=> ?_⟩,by simp only;omega⟩;have:m0≠i:=λe=>hd (by rw [<-e,hmb];exact Beb h)
    exact hpm (by omega)
  ·right;have e:i=2^n:=by omega
   subst e;rw [Ae (by omega),A4l (by omega),in0 (by omega)];exact ⟨_,rfl,hpm hm0,by omega,hr⟩) (s:=((0:Int),Aw (List Int))) ⟨0,rfl,Nat.zero_le _,Nat.le_refl _,λr hr=>(by cases hr),λhh=>by omega⟩
 rw [e];exact ⟨ys,rfl,h1,h2,h3⟩
theorem A3o {c:Sl1Cur} {k:Nat} (h:Cur k c) (hk:k<=600000000) {a:SAlgebra} (ha:Ab3 a) : ∃xs d,Hw c a=some (xs,d)/\Cur (k+100) d/\xs.length<=21:=by
 have hL:=At;unfold Hw;rw [Arw (Ac1 ha)];simp only [obs0];by_cases hg:Ca a
 ·have hr:=Ps hg;have hz:=hr.sz;have h8:=hr.le;obtain ⟨L,eL,hpos,hLl,hrow⟩:=Bc9 hr;rw [dtr0 hg,ip0 rfl,eL];simp only [obs0];obtain ⟨r,d,e,hd,a1,a2⟩:=Fb h (by omega) (L.length:Int);rw [e];simp only [obs0];have hrow:=hrow _ (Aj (show r.toNat<L.length by omega));rw [Ae (by omega),Bd6 (by omega)];simp only [obs0];generalize nth L r.toNat=row at hrow ⊢;obtain ⟨w,d2,e2,hd2,_⟩:=Fb hd (by omega) 16;rw [e2];simp only [obs0];by_cases c0:w=0
  ·rw [ip0 c0,Ae (by omega)];obtain ⟨v,d3,e3,hd3,_⟩:=K3 hd2 (by omega) [0,a.Size-1,a.Size] (by simp);rw [e3];simp only [obs0];rw [Ae (by simp;omega)];exact ⟨_,_,rfl,hd3.mono (by omega),by simp;omega⟩
  ·rw [in0 c0];by_cases c1:w=1
   ·rw [ip0 c1];by_cases c2:(row.length:Int)>0
    ·rw [ip0 c2,Ae (by omega)];exact ⟨_,_,rfl,hd2.mono (by omega),by simp;omega⟩
    ·rw [in0 c2];exact ⟨_,_,rfl,hd2.mono (by omega),by omega⟩
   ·rw [in0 c1];exact ⟨_,_,rfl,hd2.mono (by omega),by omega⟩
 ·rw [dfa0 hg,in0 (by simp)];exact ⟨_,_,rfl,h.mono (by omega),by simp⟩
end
end Go.Proofs.YtmkgjnphianalaaGreat.Ax
