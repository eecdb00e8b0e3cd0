/-
 Plain facts, joined.
-/
import Derived.Test.YtmkgjnphianalaaGreatPA
namespace Go.Proofs.YtmkgjnphianalaaGreat.Ax
open Go Classical
theorem A1z {n:Nat} (h:n<=20):(2:Nat)^n<=1048576:=by have:(2:Nat)^n<=2^20:=Nat.pow_le_pow_right (by omega) h;omega
theorem Baa {n:Nat} (h:n<=20):A3m 1 (n:Int)=((2^n:Nat):Int):=by
 have h1:=A1z h;have e:min ((n:Int)).toNat IntKind.i64.bits=n:=by have:IntKind.i64.bits=64:=rfl;rw [this,tna0];omega
 unfold A3m;rw [e,Int.one_mul,show ((2:Int)^n)=((2^n:Nat):Int) by simp];generalize 2^n=q at h1 ⊢;exact Vw (by omega) (by omega)
theorem A24 (m:Nat) {x:Nat} (h:x<=20):A0h (m:Int) (x:Int)=((m/2^x:Nat):Int):=by
 have e:min ((x:Int)).toNat IntKind.i64.bits=x:=by have:IntKind.i64.bits=64:=rfl;rw [this,tna0];omega
 unfold A0h;rw [e,Int.fdiv_eq_ediv_of_nonneg _ (Int.pow_nonneg (by omega)),show ((2:Int)^x)=((2^x:Nat):Int) by simp];rfl
theorem A83 {m:Nat} (h:m<=1048576):A5d (m:Int) 1=((m%2:Nat):Int):=by
 unfold A5d;have e:(BitVec.ofInt IntKind.i64.bits (m:Int) &&& BitVec.ofInt IntKind.i64.bits 1).toNat=m%2:=by
  have hb:IntKind.i64.bits=64:=rfl;rw [hb,BitVec.toNat_and,BitVec.toNat_ofInt,BitVec.toNat_ofInt];have e1:((m:Int)%((2^64:Nat):Int)).toNat=m:=by omega
  have e2:((1:Int)%((2^64:Nat):Int)).toNat=1:=by decide
  rw [e1,e2,Nat.and_one_is_mod]
 rw [e];exact Vw (by omega) (by omega)
def Aba (m i:Nat):Bool:=decide (m/2^i%2=1)
theorem A1e {q:Nat->Bool} {i:Nat} : ∀ {n:Nat},i<=n->(∀j,i<=j->j<n->q j=false)->Av n q=Av i q:=by
 intro n
 induction n with
 | zero => intro h _;have:i=0:=by omega
           subst this;rfl
 | succ n ih=>
   intro h hq;by_cases hi:i=n+1
   ·subst hi;rfl
   ·rw [F6,hq n (by omega) (by omega),in0 (by simp)];exact ih (by omega) λj h1 h2=>hq j h1 (by omega)
theorem A5l {m i j:Nat} (h:m/2^i=0) (hj:i<=j):Aba m j=false:=by
 have h1:m<2^i:=by
  rcases Nat.lt_or_ge m (2^i) with h1 | h1
  ·exact h1
  ·have:=Nat.div_pos h1 (Nat.pow_pos (by omega));omega
 have h2:(2:Nat)^i<=2^j:=Nat.pow_le_pow_right (by omega) hj;unfold Aba;rw [Nat.div_eq_of_lt (by omega)];simp
theorem A41 {body:(Int×List Int)->Option ((Int×List Int) ⊕ List Int)} {m n:Nat} (hm:m<2^n)
  (h0 : ∀(i:Nat) acc,i<=n->m/2^i=0->body ((i:Int),acc)=some (.inr acc))
  (h1 : ∀(i:Nat) acc,i<n->acc.length<=i->¬m/2^i=0->body ((i:Int),acc)=some (.inl (((i+1:Nat):Int),if Aba m i then acc++[(i:Int)] else acc))):Aj body (0,Al Int)=some (Av n (Aba m)):=by
 have e0:((0:Int),Al Int)=(((0:Nat):Int),Av 0 (Aba m)):=rfl;rw [e0];rcases Xi (body:=body) (λi=>((i:Int),Av i (Aba m))) n (λi=>m/2^i=0) (λi=>Av i (Aba m)) (Av n (Aba m)) (λi hi hh=>by rw [h1 i _ hi (Ph _ _) hh,F6]) (λi hi hh=>h0 i _ (by omega) hh) (h0 n _ (Nat.le_refl _) (Nat.div_eq_of_lt hm)) with ⟨i,hi,hh,_,e⟩ | ⟨_,e⟩
 ·rw [e,A1e (q:=Aba m) (n:=n) (by omega) λj hj _=>A5l hh hj]
 ·exact e
theorem Bbe (m i:Nat):m/2^i<=m:=Nat.div_le_self _ _
theorem A7w {m n:Nat} (hn:n<=20) (hm:m<2^n):Lv (m:Int)=some (Av n (Aba m)):=by
 unfold Lv;have hp:=A1z hn;rw [A41 (body:=Gn (m:Int)) hm (λi acc hi hh=>by
  unfold Gn;dsimp only;rw [Af (by omega),A24 m (by omega),hh,in0 (by omega)]) (λi acc hi ha hh=>by
  unfold Gn Aba;dsimp only;have hd:=Bbe m i;rw [Af (by omega),A24 m (by omega)];generalize m/2^i=q at *;rw [ip0 (by omega),Af (by omega),A83 (by omega)];by_cases hb:q%2=1
  ·rw [ip0 (by omega),Af (by rw [Az];simp;omega),Af (by omega),dtr0 hb,ip0 rfl];rfl
  ·rw [in0 (by omega),Af (by omega),dfa0 hb,in0 (by simp)];rfl)]
 rfl
def Bb8 (a b:List Int):Prop := ∃i,i<a.length/\(∀j,j<i->nth a j=nth b j)/\nth a i<nth b i
theorem A6o {a b:List Int} (hl:a.length=b.length) (h:a.length<=LIM):Ma a b=some (decide (Bb8 a b)):=by
 unfold Ma;rw [Az] at h;rw [show ((0:Int))=(((0:Nat)):Int) from rfl];rcases Xi (body:=E0 a b) (λi=>(i:Int)) a.length (λi=>nth a i≠nth b i) (λi=> .inl (decide (nth a i<nth b i))) (.inr ()) (λi hi hh=>by
   unfold E0;rw [ip0 (by omega),Af (by omega),Af (by omega),tna0,in0 hh,Af (by omega)];rfl) (λi hi hh=>by
   unfold E0;rw [ip0 (by omega),Af (by omega),Af (by omega),tna0,ip0 hh,Af (by omega),Af (by omega)]) (by
   unfold E0;rw [in0 (by omega)]) with ⟨i,hi,hh,hf,e⟩ | ⟨hn,e⟩
 ·rw [e];simp only [obs0];congr 1;rw [decide_eq_decide];constructor
  ·intro hlt;exact ⟨i,hi,λj hj=>Classical.not_not.1 (hf j hj),hlt⟩
  ·rintro ⟨k,hk,h1,h2⟩;rcases Nat.lt_trichotomy k i with hki | hki | hki
   ·have:=Classical.not_not.1 (hf k hki);omega
   ·subst hki;exact h2
   ·exact absurd (h1 i hki) hh
 ·rw [e,dfa0]
  ·rfl
  ·rintro ⟨k,hk,_,h2⟩;have:=Classical.not_not.1 (hn k hk);omega
def Bcw (f:Nat->Nat->Bool) (ls:List Int):Prop := ∀x∈ls,∀y∈ls,¬(x.toNat≠y.toNat/\f x.toNat y.toNat=true)
theorem A7d (n:Nat) (q:Nat->Bool):Bm (Av n q) n:=by intro x hx;obtain ⟨z,h1,_,rfl⟩:=Im.1 hx;omega
def pc (n m:Nat):Nat:=(Av n (Aba m)).length
theorem A3g {q q':Nat->Bool} {x:Nat} (hq:q x=false) (h : ∀i,q' i=(q i || decide (x=i))) : ∀n,(Av n q').length=(Av n q).length+if x<n then 1 else 0:=by
 intro n
 induction n with
 | zero=>simp [Av]
 | succ n ih=>
   rw [F6,F6,h n];by_cases hxn:x=n
   ·subst hxn;rw [hq];simp only [decide_true,Bool.or_true,if_true,Bool.false_eq_true,if_false];rw [List.length_append,ih,in0 (by omega),ip0 (by omega)];rfl
   ·rw [dfa0 hxn,Bool.or_false];by_cases hqn:q n=true
    ·rw [ip0 hqn,ip0 hqn,List.length_append,List.length_append,ih];by_cases hx:x<n
     ·rw [ip0 hx,ip0 (by omega)];simp
     ·rw [in0 hx,in0 (by omega)];rfl
    ·rw [in0 hqn,in0 hqn,ih];by_cases hx:x<n
     ·rw [ip0 hx,ip0 (by omega)]
     ·rw [in0 hx,in0 (by omega)]
def wt (n m:Nat):Nat:=10^(10-pc n m)
def phi (n:Nat) (ws:List Int):Nat->Nat->Int
 | _,0=>0
 | M,k+1=>nth ws M*wt n M+phi n ws (M+1) k
section
variable {n:Nat} {f:Nat->Nat->Bool}
structure okW (n m:Nat) (ws:List Int):Prop where
 len:ws.length=2^n
 pos : ∀i,i<ws.length->0<=nth ws i
 sum:phi n ws m (2^n-m)<=10000000000
end
theorem A5j {q q':Nat->Bool} : ∀(n:Nat),(∀i,i<n->q i=true->q' i=true)->(Av n q).length<=(Av n q').length:=by
 intro n
 induction n with
 | zero=>intro _;simp [Av]
 | succ n ih=>
   intro h;have:=ih λi hi=>h i (by omega)
   rw [F6,F6];by_cases hq:q n=true
   ·rw [ip0 hq,ip0 (h n (by omega) hq),List.length_append,List.length_append];simp;omega
   ·rw [in0 hq];split
    ·rw [List.length_append];omega
    ·exact this
theorem A6i {q q':Nat->Bool} {x:Nat} (hx:q x=false) (hx':q' x=true) : ∀(n:Nat),x<n->(∀i,i<n->q i=true->q' i=true)->(Av n q).length<(Av n q').length:=by
 intro n
 induction n with
 | zero=>intro h _;omega
 | succ n ih=>
   intro hn h;rw [F6,F6];by_cases hxn:x=n
   ·subst hxn;have:=A5j x λi hi=>h i (by omega)
    rw [hx,hx',in0 (by simp),ip0 rfl,List.length_append];simp;omega
   ·have:=ih (by omega) λi hi=>h i (by omega)
    by_cases hq:q n=true
    ·rw [ip0 hq,ip0 (h n (by omega) hq),List.length_append,List.length_append];simp;omega
    ·rw [in0 hq];split
     ·rw [List.length_append];omega
     ·exact this
theorem A40 (n:Nat):(Av n λ_=>true).length=n:=by
 induction n with
 | zero=>rfl
 | succ n ih=>rw [F6,ip0 rfl,List.length_append,ih];rfl
theorem Ay4 {xs:List Int}:Z9 xs↔xs.Pairwise (· < ·):=by
 constructor
 ·intro h;refine List.pairwise_iff_getElem.2 λi j hi hj hij=> ?_
  have:=Aon h hij hj
  rwa [Cz hi,Cz hj] at this
 ·intro h i h1 h2;have:=List.pairwise_iff_getElem.1 h (i-1) i (by omega) h2 (by omega)
  rwa [Cz (by omega),Cz h2]
noncomputable def Bck (n:Nat) (g h:Nat->Nat->Nat) (S:Nat->Bool):Nat->Bool:=λz=>decide (S z=true \/ ∃x y,x<n/\y<n/\S x=true/\S y=true/\(z=g x y\/z=h x y))
noncomputable def At9 (n:Nat) (g h:Nat->Nat->Nat) (S:Nat->Bool):Nat->Nat->Bool
 | 0=>S
 | k+1=>Bck n g h (At9 n g h S k)
section
variable {n:Nat} {g h:Nat->Nat->Nat} {S:Nat->Bool}
def Bcx (n:Nat) (g h:Nat->Nat->Nat) (S:Nat->Bool) (k:Nat):Prop := ∀z,z<n->At9 n g h S (k+1) z=At9 n g h S k z
noncomputable def closed (n:Nat) (g h:Nat->Nat->Nat) (S:Nat->Bool):Nat->Bool:=At9 n g h S n
theorem Az4 {xs:List Int} (hx:Bm xs n) (hr:Z9 xs):Av n (λz=>decide ((z:Int)∈xs))=xs:=by
 refine Atc (Wd _ _) hr λx=> ?_
 rw [Im];constructor
 ·rintro ⟨i,_,h1,rfl⟩;simpa using h1
 ·intro h1;have:=hx x h1;exact ⟨x.toNat,by omega,by simpa [show ((x.toNat:Nat):Int)=x by omega] using h1,by omega⟩
def Bcv (n:Nat) (S:Nat->Bool):List Nat:=(List.range n).filter S
end
theorem Ahq {xs ys:List Int} (h:xs.length<=LIM):Hy xs ys=some (decide (xs=ys)):=by
 unfold Hy;rw [Az] at h;split
 ·rename_i hl;rw [dfa0];rintro rfl;exact hl rfl
 rename_i hl;have hl:xs.length=ys.length:=by omega
 have:=Fe (body:=Fa xs ys) (λi=>(i:Int)) xs.length (λi=>¬nth xs i=nth ys i) () () (λi hi hb=>by
  unfold Fa;rw [ip0 (by omega),Af (by omega),Af (by omega)];simp only [tna0];rw [in0 (by simpa using hb),Af (by omega)];rfl) (λi hi hb=>by
  unfold Fa;rw [ip0 (by omega),Af (by omega),Af (by omega)];simp only [tna0];rw [ip0 hb]) (by unfold Fa;rw [in0 (by omega)]) 0 (by omega)
 show ((Aj _ ((0:Nat):Int)).bind _)=_;rw [this];by_cases hx : ∃i,0<=i/\i<xs.length/\¬nth xs i=nth ys i
 ·rw [ip0 hx,dfa0]
  ·rfl
  ·rintro rfl;obtain ⟨i,_,_,hc⟩:=hx;exact hc rfl
 ·rw [in0 hx,dtr0 (Qh hl (Q6.1 hx))];rfl
theorem Bam {n:Nat} {S:Nat->Bool} {z k:Nat} (hz:z<n) (hk:k<=(Av n S).length) (h1 : ∀j,j<k->nth (Av n S) j<(z:Int)) (h2:k<(Av n S).length->(z:Int)<nth (Av n S) k) :
  (Av n S).take k++[(z:Int)]++(Av n S).drop k=Av n λa=>decide (S a=true\/a=z):=by
 have hr:=Wd n S;have e:=List.take_append_drop k (Av n S);refine Atc (Ay4.2 ?_) (Wd _ _) λx=> ?_
 ·rw [List.append_assoc,List.pairwise_append];have hp:=Ay4.1 hr;rw [<-e,List.pairwise_append] at hp;have ht : ∀a∈(Av n S).take k,a<(z:Int):=by
   intro a ha;obtain ⟨j,hj,rfl⟩:=H6.1 ha;have hj':j<k:=by rw [List.length_take] at hj;omega
   have:=h1 j hj';rw [Cz hj,List.getElem_take]
   rwa [Cz (by omega)] at this
  have hd : ∀a∈(Av n S).drop k,(z:Int)<a:=by
   intro a ha;obtain ⟨j,hj,rfl⟩:=H6.1 ha;rw [List.length_drop] at hj;have h3:=h2 (by omega);have h4:nth ((Av n S).drop k) j=nth (Av n S) (k+j):=by rw [Cz (by rw [List.length_drop];omega),Cz (by omega),List.getElem_drop]
   rw [h4];by_cases hj0:j=0
   ·subst hj0;exact h3
   ·have:=Aon hr (i:=k) (j:=k+j) (by omega) (by omega);omega
  refine ⟨hp.1,?_,?_⟩
  ·rw [List.singleton_append,List.pairwise_cons];exact ⟨hd,hp.2.1⟩
  ·intro a ha b hb;rcases List.mem_append.1 hb with hb | hb
   ·rw [List.mem_singleton.1 hb];exact ht a ha
   ·exact hp.2.2 a ha b hb
 ·have hm:x∈Av n S↔x∈(Av n S).take k\/x∈(Av n S).drop k:=by rw [<-List.mem_append,e]
  rw [List.mem_append,List.mem_append,List.mem_singleton];have:(x∈Av n S\/x=(z:Int))↔x∈Av n λa=>decide (S a=true\/a=z):=by
   rw [Im,Im];constructor
   ·rintro (⟨i,a,b,rfl⟩ | rfl)
    ·exact ⟨i,a,dtr0 (.inl b),rfl⟩
    ·exact ⟨z,hz,dtr0 (.inr rfl),rfl⟩
   ·rintro ⟨i,a,b,rfl⟩;rcases of_decide_eq_true b with c | c
    ·exact .inl ⟨i,a,c,rfl⟩
    ·exact .inr (by omega)
  rw [<-this,hm];constructor
  ·rintro ((h | h) | h)
   ·exact .inl (.inl h)
   ·exact .inr h
   ·exact .inl (.inr h)
  ·rintro ((h | h) | h)
   ·exact .inl (.inl h)
   ·exact .inr h
   ·exact .inl (.inr h)
theorem Bb2 {n:Nat} {S:Nat->Bool} {z k:Nat} (hk:k<(Av n S).length) (h:nth (Av n S) k=(z:Int)):Av n S=Av n λa=>decide (S a=true\/a=z):=by
 obtain ⟨i,a,b,c⟩:=Im.1 (Ao hk);rw [h] at c;refine Aj5 λj _=> ?_
 by_cases hj:j=z
 ·have:j=i:=by omega
  subst this;rw [b];exact (dtr0 (.inl rfl)).symm
 ·cases hS:S j<;>simp [hj]
theorem A97 {n:Nat} (hn:n<=1000) (S:Nat->Bool) {z:Nat} (hz:z<n):Oa (Av n S) (z:Int)=some (Av n λa=>decide (S a=true\/a=z)):=by
 unfold Oa;have hl:=Ph n S;rw [show ((0:Int))=(((0:Nat)):Int) from rfl];have key : ∃k:Nat,k<=(Av n S).length/\(∀j,j<k->nth (Av n S) j<(z:Int))/\(k<(Av n S).length->¬nth (Av n S) k<(z:Int))/\Aj (Et (Av n S) (z:Int)) (((0:Nat)):Int)=some (k:Int):=by
  rcases Xi (body:=Et (Av n S) (z:Int)) (λi=>(i:Int)) (Av n S).length (λi=>¬nth (Av n S) i<(z:Int)) (λi=>(i:Int)) ((Av n S).length:Int) (λi hi hh=>by
    unfold Et;rw [ip0 (by omega),Af (by omega),tna0,ip0 (Classical.not_not.1 hh),Af (by omega)];rfl) (λi hi hh=>by
    unfold Et;rw [ip0 (by omega),Af (by omega),tna0,in0 hh]) (by
    unfold Et;rw [in0 (by omega)]) with ⟨i,hi,hh,hj,e⟩ | ⟨hno,e⟩
  ·exact ⟨i,by omega,λj h=>Classical.not_not.1 (hj j h),λ_=>hh,e⟩
  ·exact ⟨_,Nat.le_refl _,λj h=>Classical.not_not.1 (hno j h),λh=>absurd h (Nat.lt_irrefl _),e⟩
 obtain ⟨k,hk,h1,h2,e⟩:=key;rw [e];simp only [obs0];have tail:(¬k<(Av n S).length\/nth (Av n S) k≠(z:Int))->(ask (0<=(((0:Nat)):Int)/\(((0:Nat)):Int)<=(k:Int)/\(k:Int)<=(((Av n S).length:Nat):Int)) <|
   ask ((Al Int).length+(List.take ((k:Int).toNat-Int.toNat ((((0:Nat)):Int))) (List.drop (Int.toNat ((((0:Nat)):Int))) (Av n S))).length<=LIM) <|
   ask ((Al Int++List.take ((k:Int).toNat-Int.toNat ((((0:Nat)):Int))) (List.drop (Int.toNat ((((0:Nat)):Int))) (Av n S))).length+([(z:Int)]).length<=LIM) <|
   ask (0<=(k:Int)/\(k:Int)<=((Av n S).length:Int)/\((Av n S).length:Int)<=(((Av n S).length:Nat):Int)) <|
   ask ((Al Int++List.take ((k:Int).toNat-Int.toNat ((((0:Nat)):Int))) (List.drop (Int.toNat ((((0:Nat)):Int))) (Av n S))++[(z:Int)]).length+(List.take (((Av n S).length:Int).toNat-(k:Int).toNat) (List.drop (k:Int).toNat (Av n S))).length<=LIM) <|
   some (Al Int++List.take ((k:Int).toNat-Int.toNat ((((0:Nat)):Int))) (List.drop (Int.toNat ((((0:Nat)):Int))) (Av n S))++[(z:Int)]++List.take (((Av n S).length:Int).toNat-(k:Int).toNat) (List.drop (k:Int).toNat (Av n S))))=some (Av n λa=>decide (S a=true\/a=z)):=by
  intro h3;simp only [tna0,List.drop_zero,Nat.sub_zero,List.nil_append];have ed:List.take ((Av n S).length-k) (List.drop k (Av n S))=List.drop k (Av n S):=List.take_of_length_le (by rw [List.length_drop];omega);rw [ed];have ht:(List.take k (Av n S)).length<=1000:=by rw [List.length_take];omega
  have hd:(List.drop k (Av n S)).length<=1000:=by rw [List.length_drop];omega
  rw [Af (by omega),Af (by rw [Az];simp only [List.length_nil];omega),Af (by rw [Az];simp only [List.length_cons,List.length_nil];omega),Af (by omega),Af (by rw [Az];simp only [List.length_append,List.length_cons,List.length_nil];omega)];rw [Bam hz hk h1 λh=>by have h4:=h2 h;rcases h3 with h3 | h3<;>omega]
 by_cases hkl:k<(Av n S).length
 ·rw [ip0 (by omega),Af (by omega),tna0];by_cases hv:nth (Av n S) k=(z:Int)
  ·rw [ip0 hv];simp only [obs0];rw [<-Bb2 hkl hv]
  ·rw [in0 hv];exact tail (.inr hv)
 ·rw [in0 (by omega)];exact tail (.inl hkl)
theorem A5t {n:Nat} (hn:n<=LIM) (S:Nat->Bool):Mb (Mu n S)=some (Av n S):=by
 unfold Mb;have hn':=hn;rw [Az] at hn';have hl:=Is n S;rw [Am2 n S (λi acc hi ha=>by
  unfold Ig;dsimp only;rw [ip0 (by omega),Af (by omega),tna0,J8 hi];by_cases hp:S i=true
  ·rw [ip0 hp,ip0 hp,Af (by rw [Az];simp;omega),Af (by omega)];rfl
  ·rw [in0 hp,in0 hp,Af (by omega)];rfl) (λacc=>by
  unfold Ig;dsimp only;rw [in0 (by omega)])]
 rfl
def Du (a:SAlgebra):Prop:=a.Ops.length<=1048576 /\ ∀f∈a.Ops,f.Table.length<=1048576
def A70 (n:Nat) (f:SOp):Prop:=0<=f.Arity/\f.Arity<=3/\f.Table.length=n^f.Arity.toNat/\Bm f.Table n
def B8 (a:SAlgebra):Prop:=1<=a.Size/\a.Size<=8/\a.Ops.length<=4 /\ ∀f∈a.Ops,A70 a.Size.toNat f
theorem Acw {n k:Nat} (hn:n<=8) (hk:k<=3):n^k<=512:= Nat.le_trans (Nat.pow_le_pow_left hn k) (Nat.le_trans (Nat.pow_le_pow_right (by omega) hk) (by decide))
theorem A9n {n k:Nat} (hn:n<=8) (hk:k<=3):Ld n k=some ((n^k:Nat):Int):=by
 unfold Ld;have key:=Bp (body:=F3 n) (λj=>(((n^j:Nat):Int),((k:Int)-(j:Int)))) k ((n^k:Nat):Int) (λj hj=>by
  unfold F3;dsimp only;have hp:=Acw hn (show j+1<=3 by omega);rw [Nat.pow_succ] at hp;rw [ip0 (by omega),<-Int.natCast_mul,Nat.pow_succ];generalize n^j*n=N at hp ⊢;rw [Af (by omega),Af (by omega),show ((k:Int)-(j:Int)-1)=(k:Int)-((j+1:Nat):Int) by omega]) (by
  unfold F3;dsimp only;rw [in0 (by omega)])
 have key':Aj (F3 n) (1,(k:Int))=some ((n^k:Nat):Int):=by simpa using key
 rw [key'];rfl
theorem Avg {n k:Nat} (hn:n<=8) (hk:k<=3):Hh n k=some ((n^k:Nat):Int):=by
 unfold Hh;have key:=Bp (body:=Gb n) (λj=>(((n^j:Nat):Int),((k:Int)-(j:Int)))) k ((n^k:Nat):Int) (λj hj=>by
  unfold Gb;dsimp only;have hp:=Acw hn (show j+1<=3 by omega);rw [Nat.pow_succ] at hp;rw [ip0 (by omega),<-Int.natCast_mul,Nat.pow_succ];generalize n^j*n=N at hp ⊢;rw [Af (by omega),Af (by omega),show ((k:Int)-(j:Int)-1)=(k:Int)-((j+1:Nat):Int) by omega]) (by
  unfold Gb;dsimp only;rw [in0 (by omega)])
 have key':Aj (Gb n) (1,(k:Int))=some ((n^k:Nat):Int):=by simpa using key
 rw [key'];rfl
theorem A7u {n:Nat} (hn:n<=8) {f:SOp} (hl:f.Table.length<=LIM):Qy f n=some (decide (A70 n f)):=by
 unfold Qy;by_cases h0:0<=f.Arity
 ·rw [ip0 (show f.Arity>=0 from h0)];by_cases h3:f.Arity<=3
  ·have e:Ld (n:Int) f.Arity=some ((n^f.Arity.toNat:Nat):Int):=by
    have:=A9n hn (k:=f.Arity.toNat) (by omega)
    rwa [show ((f.Arity.toNat:Nat):Int)=f.Arity by omega] at this
   rw [ip0 h3,e];simp only [obs0];by_cases hL:f.Table.length=n^f.Arity.toNat
   ·rw [ip0 (by rw [hL]),Ani _ _ hl];simp only [obs0];congr 1;rw [decide_eq_decide];exact ⟨λh=>⟨h0,h3,hL,h⟩,λh=>h.2.2.2⟩
   ·rw [in0 (λhc=>hL (Int.ofNat_inj.1 hc)),dfa0 (λh=>hL h.2.2.1)]
  ·rw [in0 h3,dfa0 (λh=>h3 h.2.1)]
 ·rw [in0 (by omega),dfa0 (λh=>h0 h.1)]
theorem A5m {n:Nat} (hn1:1<=n) (hn:n<=8) {f:SOp} (hl:f.Table.length<=LIM):Rd n f=some (decide (A70 n f)):=by
 unfold Rd;rw [Abr];simp only [obs0];by_cases h0:0<=f.Arity/\f.Arity<=3
 ·have e:Hh (n:Int) f.Arity=some ((n^f.Arity.toNat:Nat):Int):=by
   have:=Avg hn (k:=f.Arity.toNat) (by omega)
   rwa [show ((f.Arity.toNat:Nat):Int)=f.Arity by omega] at this
  rw [dtr0 h0,ip0 rfl,e];simp only [obs0];by_cases hL:f.Table.length=n^f.Arity.toNat
  ·rw [in0 (by rw [hL];simp)];simp only [obs0];have hl':=hl;rw [Az] at hl';have this:=Fe (body:=Gs n f) (λi=>(i:Int)) f.Table.length (λi=>¬(0<=nth f.Table i/\nth f.Table i<=(n:Int)-1)) () () (λi hi hb=>by
    unfold Gs;rw [ip0 (by omega),Af (by omega),Af (by omega),Abr];simp only [tna0,obs0];rw [dtr0 (Classical.not_not.1 hb),ip0 rfl,Af (by omega)];rfl) (λi hi hb=>by
    unfold Gs;rw [ip0 (by omega),Af (by omega),Af (by omega),Abr];simp only [tna0,obs0];rw [dfa0 hb,in0 (by simp)]) (by
    unfold Gs;rw [in0 (by omega)]) 0 (by omega)
   refine (G9 this false true).trans (congrArg some (Sw ?_));rw [Q6];constructor
   ·intro h;refine ⟨h0.1,h0.2,hL,λx hx=> ?_⟩;obtain ⟨i,hi,rfl⟩:=H6.1 hx;have:=h i hi;omega
   ·intro h i hi;have:=h.2.2.2 _ (Ao hi);omega
  ·rw [ip0 (λhc=>hL (Int.ofNat_inj.1 hc)),dfa0 (λh=>hL h.2.2.1)];rfl
 ·rw [dfa0 h0,in0 (by simp),dfa0 (λh=>h0 ⟨h.1,h.2.1⟩)];rfl
theorem Nc {a:SAlgebra} (h:Du a):C2 a=some (decide (B8 a)):=by
 unfold C2;by_cases h1:a.Size<1
 ·rw [ip0 h1,dfa0 (λhg=>by have:=hg.1;omega)];rfl
 rw [in0 h1];by_cases h8:a.Size>8
 ·rw [ip0 h8,dfa0 (λhg=>by have:=hg.2.1;omega)];rfl
 rw [in0 h8];by_cases h4:(a.Ops.length:Int)>4
 ·rw [ip0 h4,dfa0 (λhg=>by have:=hg.2.2.1;omega)];rfl
 rw [in0 h4];simp only [obs0];obtain ⟨n,hn⟩:=Int.eq_ofNat_of_zero_le (show 0<=a.Size by omega);have this:=Fe (body:=Dn a) (λi=>(i:Int)) a.Ops.length (λi=>¬A70 n (nth a.Ops i)) () () (λi hi hb=>by
  have hl:=h.2 _ (Ao hi);unfold Dn;rw [ip0 (by omega),Af (by omega),tna0,hn,A7u (by omega) (by rw [Az];omega)];simp only [obs0];rw [dtr0 (Classical.not_not.1 hb),ip0 rfl,Af (by omega)];rfl) (λi hi hb=>by
  have hl:=h.2 _ (Ao hi);unfold Dn;rw [ip0 (by omega),Af (by omega),tna0,hn,A7u (by omega) (by rw [Az];omega)];simp only [obs0];rw [dfa0 hb,in0 (by simp)]) (by
  unfold Dn;rw [in0 (by omega)]) 0 (by omega)
 refine (G9 this false true).trans (congrArg some (Sw ?_));rw [Q6];have hnn:a.Size.toNat=n:=by omega
 constructor
 ·intro hh;refine ⟨by omega,by omega,by omega,λf hf=> ?_⟩;obtain ⟨i,hi,rfl⟩:=H6.1 hf;rw [hnn];exact hh i hi
 ·intro hg i hi;have:=hg.2.2.2 _ (Ao hi)
  rwa [hnn] at this
theorem Y2 {a:SAlgebra} (h:Du a):Ef a=some (decide (B8 a)):=by
 unfold Ef;rw [Abr];simp only [obs0];by_cases h1:1<=a.Size/\a.Size<=8
 ·rw [dtr0 h1,ip0 rfl];by_cases h4:(a.Ops.length:Int)>4
  ·rw [ip0 h4,dfa0 (λhg=>by have:=hg.2.2.1;omega)];rfl
  rw [in0 h4];simp only [obs0];obtain ⟨n,hn⟩:=Int.eq_ofNat_of_zero_le (show 0<=a.Size by omega);have this:=Fe (body:=E2 a) (λi=>(i:Int)) a.Ops.length (λi=>¬A70 n (nth a.Ops i)) () () (λi hi hb=>by
   have hl:=h.2 _ (Ao hi);unfold E2;rw [ip0 (by omega),Af (by omega),tna0,hn,A5m (by omega) (by omega) (by rw [Az];omega)];simp only [obs0];rw [dtr0 (Classical.not_not.1 hb),ip0 rfl,Af (by omega)];rfl) (λi hi hb=>by
   have hl:=h.2 _ (Ao hi);unfold E2;rw [ip0 (by omega),Af (by omega),tna0,hn,A5m (by omega) (by omega) (by rw [Az];omega)];simp only [obs0];rw [dfa0 hb,in0 (by simp)]) (by
   unfold E2;rw [in0 (by omega)]) 0 (by omega)
  refine (G9 this false true).trans (congrArg some (Sw ?_));rw [Q6];have hnn:a.Size.toNat=n:=by omega
  constructor
  ·intro hh;refine ⟨by omega,by omega,by omega,λf hf=> ?_⟩;obtain ⟨i,hi,rfl⟩:=H6.1 hf;rw [hnn];exact hh i hi
  ·intro hg i hi;have:=hg.2.2.2 _ (Ao hi)
   rwa [hnn] at this
 ·rw [dfa0 h1,in0 (by simp),dfa0 (λhg=>h1 ⟨hg.1,hg.2.1⟩)];rfl
def C4 (a:SAlgebra):List Int:=a.Ops.map (·.Arity)
theorem Ane {a:SAlgebra} {i:Nat} (hi:i<a.Ops.length):(a.Ops.take (i+1)).map (·.Arity)=(a.Ops.take i).map (·.Arity)++[(nth a.Ops i).Arity]:=by rw [Dt hi,List.map_append];rfl
theorem Axv {a:SAlgebra} (h:Du a):Jz a=some (C4 a):=by
 unfold Jz;have h0:=h.1;have key:=Bp (body:=E8 a) (λi=>((i:Int),(a.Ops.take i).map (·.Arity))) a.Ops.length (C4 a) (λi hi=>by
  unfold E8;dsimp only;rw [ip0 (by omega),Af (by omega),tna0,Af (by rw [Az];simp only [List.length_map,List.length_take,List.length_cons,List.length_nil];omega),Af (by omega),Ane hi];rfl) (by
  unfold E8;dsimp only;rw [in0 (by omega),List.take_length];rfl)
 have key':Aj (E8 a) (0,Al Int)=_:=key;rw [key'];rfl
theorem Agc {a:SAlgebra} (h:Du a):Jr a=some (C4 a):=by
 unfold Jr;have h0:=h.1;have key:=Bp (body:=Ez a) (λi=>((i:Int),(a.Ops.take i).map (·.Arity))) a.Ops.length (C4 a) (λi hi=>by
  unfold Ez;dsimp only;rw [ip0 (by omega),Af (by omega),tna0,Af (by rw [Az];simp only [List.length_map,List.length_take,List.length_cons,List.length_nil];omega),Af (by omega),Ane hi];rfl) (by
  unfold Ez;dsimp only;rw [in0 (by omega),List.take_length];rfl)
 have key':Aj (Ez a) (0,Al Int)=_:=key;rw [key'];rfl
theorem Aix {a:SAlgebra} (h:Du a):(C4 a).length<=LIM:=by have:=h.1;unfold C4;rw [List.length_map,Az];omega
theorem Apr {xs ys:List Int} (h:xs.length<=LIM):Hc xs ys=some (decide (xs=ys)):=by
 unfold Hc;rw [Az] at h;by_cases hne:xs.length=ys.length
 ·rw [in0 (by omega)];have this:=Fe (body:=D3 xs ys) (λi=>(i:Int)) xs.length (λi=>¬nth xs i=nth ys i) () () (λi hi hb=>by
   unfold D3;rw [ip0 (by omega),Af (by omega),Af (by omega)];simp only [tna0];rw [in0 (λhc=>hc (Classical.not_not.1 hb).symm),Af (by omega)];rfl) (λi hi hb=>by
   unfold D3;rw [ip0 (by omega),Af (by omega),Af (by omega)];simp only [tna0];rw [ip0 (λhc=>hb hc.symm)]) (by unfold D3;rw [in0 (by omega)]) 0 (by omega)
  refine (G9 this false true).trans (congrArg some (Sw ?_));rw [Q6];exact ⟨λhh=>Qh hne hh,λhh i _=>by rw [hh]⟩
 ·rw [ip0 (by omega),dfa0 (λhh=>hne (by rw [hh]))]
def L8 (n:Nat):Nat->Nat->List Int
 | 0,_=>[]
 | r+1,k=>L8 n r (k/n)++[((k%n:Nat):Int)]
theorem L0 (n:Nat) : ∀r k,(L8 n r k).length=r:=by
 intro r
 induction r with
 | zero=>intro k;rfl
 | succ r ih=>intro k;simp [L8,ih]
theorem Sv {n:Nat} (hn:0<n) : ∀r k,Bm (L8 n r k) n:=by
 intro r
 induction r with
 | zero=>intro k x hx;cases hx
 | succ r ih=>
   intro k x hx;simp only [L8] at hx;rcases List.mem_append.1 hx with hx | hx
   ·exact ih _ x hx
   ·rw [List.mem_singleton.1 hx];have:=Nat.mod_lt k hn;omega
theorem A9k {n:Nat} (hn:0<n) (hn8:n<=8) : ∀(r k:Nat) (xs:List Int),r<=xs.length->xs.length<=1000->k<=1048576->Aj (E6 n) ((r:Int)-1,xs,(k:Int))=some (L8 n r k++xs.drop r):=by
 intro r
 induction r with
 | zero=> intro k xs _ _ _;refine Cn ?_;unfold E6;dsimp only;rw [in0 (by omega)];simp [L8]
 | succ r ih=>
   intro k xs hr hl hk;have c1:(k:Int).tdiv (n:Int)=((k/n:Nat):Int):=rfl;have c2:(k:Int).tmod (n:Int)=((k%n:Nat):Int):=rfl;have hd:k/n<=k:=Nat.div_le_self k n;have step:E6 n (((r+1:Nat):Int)-1,xs,(k:Int))=some (.inl ((r:Int)-1,xs.set r ((k%n:Nat):Int),((k/n:Nat):Int))):=by unfold E6;dsimp only;rw [show (((r+1:Nat):Int)-1)=(r:Int) by omega,c1,c2];generalize k/n=kd at hd;rw [ip0 (by omega),Af (by omega),Af (by omega),Af (by omega),Af (by omega),tna0]
   rw [F2 step,ih _ _ (by rw [List.length_set];omega) (by rw [List.length_set];exact hl) (by omega)];congr 1;simp only [L8];rw [List.append_assoc];congr 1;have e:(xs.set r ((k%n:Nat):Int)).drop r=((k%n:Nat):Int)::xs.drop (r+1):=by
    refine List.ext_getElem (by simp;omega) λi h1 h2=> ?_
    rw [List.getElem_drop,List.getElem_set];cases i with
    | zero=>simp
    | succ i=> rw [in0 (by omega),List.getElem_cons_succ,List.getElem_drop];congr 1;omega
   rw [e];rfl
theorem Ac4 {n r k:Nat} (hn:0<n) (hn8:n<=8) (hr:r<=3) (hk:k<=1048576):Fi n r k=some (L8 n r k):=by unfold Fi;rw [Af (by rw [Az];omega),Af (by omega),tna0,A9k hn hn8 r k _ (by simp) (by simp;omega) hk];simp
theorem A6b {n r k:Nat} (hn:0<n) (hn8:n<=8) (hr:r<=3) (hk:k<=1048576):L9 k r n=some (L8 n r k):=by have:L9 (k:Int) (r:Int) (n:Int)=Fi (n:Int) (r:Int) (k:Int):=rfl;rw [this];exact Ac4 hn hn8 hr hk
def Uc (m:Nat) (xs:List Int):Int:=xs.foldl (λs x=>s*(m:Int)+x) 0
theorem Ajv (m:Nat) (xs:List Int) (y:Int):Uc m (xs++[y])=Uc m xs*(m:Int)+y:=by unfold Uc;rw [List.foldl_append];rfl
theorem A9t {m:Nat} : ∀(r:Nat) (xs:List Int),xs.length=r->Bm xs m -> ∃c:Nat,Uc m xs=(c:Int)/\c<m^r:=by
 intro r
 induction r with
 | zero=> intro xs hl _;have:xs=[]:=List.length_eq_zero_iff.1 hl;subst this;exact ⟨0,rfl,by simp⟩
 | succ r ih=>
   intro xs hl hx;obtain ⟨ys,y,rfl⟩ : ∃ys y,xs=ys++[y]:=by refine ⟨xs.take r,nth xs r,?_⟩;rw [<-Dt (by omega),List.take_of_length_le (by omega)]
   have hy:=hx y (by simp);obtain ⟨c,h1,h2⟩:=ih ys (by simpa using hl) λz hz=>hx z (by simp [hz])
   obtain ⟨d,rfl⟩:=Int.eq_ofNat_of_zero_le hy.1;refine ⟨c*m+d,by rw [Ajv,h1];push_cast;rfl,?_⟩;have h3:=Nat.mul_le_mul_right m (show c+1<=m^r from h2);rw [Nat.succ_mul] at h3;rw [Nat.pow_succ];omega
theorem Mr {m:Nat} (hm:m<=8) {xs:List Int} (hl:xs.length<=3) (hx:Bm xs m) : ∃c:Nat,Uc m xs=(c:Int)/\c<m^xs.length/\c<512:=by obtain ⟨c,h1,h2⟩:=A9t xs.length xs rfl hx;have:=Acw hm hl;exact ⟨c,h1,h2,by omega⟩
theorem Aie {m:Nat} {xs:List Int} {i:Nat} (hi:i<xs.length):Uc m (xs.take (i+1))=Uc m (xs.take i)*(m:Int)+nth xs i:=by rw [Dt hi,Ajv]
theorem Ajp {m:Nat} (hm:m<=8) {xs:List Int} (hl:xs.length<=3) (hx:Bm xs m) {i:Nat} (hi:i<xs.length) :
  InI (Uc m (xs.take i)*(m:Int))/\InI (Uc m (xs.take i)*(m:Int)+nth xs i):=by
 obtain ⟨c,h1,_,h3⟩:=Mr hm (xs:=xs.take i) (by rw [List.length_take];omega) λz hz=>hx z (List.mem_of_mem_take hz)
 have hv:=hx _ (Ao hi);have h4:c*m<=512*8:=Nat.mul_le_mul (by omega) hm;rw [h1,<-Int.natCast_mul];generalize c*m=d at h4;unfold InI;omega
theorem A3d {m:Nat} (hm:m<=8) {xs:List Int} (hl:xs.length<=3) (hx:Bm xs m):Ks xs m=some (Uc m xs):=by
 unfold Ks;have key:=Bp (body:=El xs m) (λi=>((i:Int),Uc m (xs.take i))) xs.length (Uc m xs) (λi hi=>by
  unfold El;dsimp only;obtain ⟨h1,h2⟩:=Ajp hm hl hx hi;rw [ip0 (by omega),Af (by omega),Af h1,tna0,Af h2,Af (by omega),Aie hi];rfl) (by
  unfold El;dsimp only;rw [in0 (by omega),List.take_length])
 have key':Aj (El xs m) (0,0)=_:=key;rw [key'];rfl
theorem A25 {b:SAlgebra} {m:Nat} (hm:m<=8) (hb:b.Size=m) {i:Nat} (hi:i<b.Ops.length) {xs:List Int} (hl:xs.length<=3) (hx:Bm xs m) (hT:(nth b.Ops i).Table.length=m^xs.length) :
  Gu b i xs=some (nth (nth b.Ops i).Table (Uc m xs).toNat):=by
 unfold Gu;have key:=Bp (body:=Ej b i xs) (λj=>((j:Int),Uc m (xs.take j))) xs.length (Uc m xs) (λj hj=>by
  unfold Ej;dsimp only;obtain ⟨h1,h2⟩:=Ajp hm hl hx hj;rw [hb,ip0 (by omega),Af h1,Af (by omega),tna0,Af h2,Af (by omega),Aie hj];rfl) (by
  unfold Ej;dsimp only;rw [in0 (by omega),List.take_length])
 have key':Aj (Ej b i xs) (0,0)=_:=key;rw [key'];simp only [obs0];obtain ⟨c,h1,h2,_⟩:=Mr hm hl hx;rw [Af (by omega),tna0,Af (by rw [h1,hT];omega)]
def It (n m:Nat) (f:List Int):Nat->Nat->Int
 | 0,_=>0
 | r+1,k=>It n m f r (k/n)*(m:Int)+nth f (k%n)
theorem Ud (n m:Nat) (f:List Int) : ∀r k,Uc m ((L8 n r k).map λx=>nth f x.toNat)=It n m f r k:=by
 intro r
 induction r with
 | zero=>intro k;rfl
 | succ r ih=> intro k;simp only [L8,It,List.map_append,List.map_cons,List.map_nil,tna0];rw [Ajv,ih]
theorem Atl (A C S M L:Int):A+C*S+S*M*L=A+S*(L*M+C):=by rw [Int.mul_add,Int.mul_comm C S,Int.add_assoc,Int.add_comm (S*C),Int.mul_assoc,Int.mul_comm M L]
theorem A6c {n m:Nat} (hn:0<n) (hm:m<=8) {a b:SAlgebra} (ha:a.Size=n) (hb:b.Size=m) {f:List Int} (hf:f.length=n) (hfx:Bm f m) {ar:Nat} (har:ar<=3) : ∀(r j s acc k:Nat),j+r=ar->s*8^r<=512->acc<=4096*j->k<=1048576 ->
  Aj (Bj ar a b f) ((j:Int),(s:Int),(acc:Int),(k:Int))=some ((acc:Int)+(s:Int)*It n m f r k):=by
 intro r
 induction r with
 | zero=> intro j s acc k hj _ _ _;refine Cn ?_;unfold Bj;dsimp only;rw [in0 (by omega)];simp [It]
 | succ r ih=>
   intro j s acc k hj hs hacc hk;have hkn:=Nat.mod_lt k hn;have hv:=hfx _ (Ao (show k%n<f.length by omega));obtain ⟨c,hc⟩:=Int.eq_ofNat_of_zero_le hv.1;have hd:k/n<=k:=Nat.div_le_self k n;have hp:0<8^r:=Nat.pow_pos (by omega);rw [Nat.pow_succ] at hs;have hs8:s*8<=512:=by have:s*8*1<=s*8*8^r:=Nat.mul_le_mul_left _ hp;rw [Nat.mul_assoc,Nat.mul_assoc,Nat.mul_comm 8 (8^r)] at this;omega
   have hsm:s*m<=s*8:=Nat.mul_le_mul_left _ hm;have hcs:c*s<=8*64:=Nat.mul_le_mul (by omega) (by omega);have c1:(k:Int).tdiv (n:Int)=((k/n:Nat):Int):=rfl;have c2:(k:Int).tmod (n:Int)=((k%n:Nat):Int):=rfl;have step:Bj ar a b f ((j:Int),(s:Int),(acc:Int),(k:Int))=some (.inl (((j+1:Nat):Int),((s*m:Nat):Int),((acc+c*s:Nat):Int),((k/n:Nat):Int))):=by
    unfold Bj;dsimp only;rw [ha,hb,c1,c2,tna0,hc];have e1:(c:Int)*(s:Int)=((c*s:Nat):Int):=by push_cast;rfl
    have e2:(s:Int)*(m:Int)=((s*m:Nat):Int):=by push_cast;rfl
    rw [e1,e2];generalize k/n=kd at hd;generalize k%n=km at hkn;generalize c*s=cs at hcs;generalize s*m=sm at hsm;rw [ip0 (by omega)];repeat rw [Af (by omega)]
    rfl
   have hb2:s*m*8^r<=512:=by have h1:s*m*8^r<=s*8*8^r:=Nat.mul_le_mul_right _ hsm;rw [Nat.mul_assoc s 8,Nat.mul_comm 8 (8^r)] at h1;omega
   rw [F2 step,ih (j+1) (s*m) (acc+c*s) (k/n) (by omega) hb2 (by omega) (by omega)];simp only [It,hc];congr 1;push_cast;exact Atl _ _ _ _ _
theorem Aud {n m:Nat} (hn:0<n) (hm:m<=8) {a b:SAlgebra} (ha:a.Size=n) (hb:b.Size=m) {f:List Int} (hf:f.length=n) (hfx:Bm f m) {ar:Nat} (har:ar<=3) {k:Nat} (hk:k<=1048576) :
  Do k ar a b f=some (It n m f ar k):=by
 unfold Do;have h8:1*8^ar<=512:=by rw [Nat.one_mul];exact Acw (by omega) har
 have key:=A6c hn hm ha hb hf hfx har ar 0 1 0 k (by omega) h8 (by omega) hk;have key':Aj (Bj ar a b f) (0,1,0,(k:Int))=some (It n m f ar k):=by simpa using key
 rw [key'];rfl
theorem Adi {n m:Nat} (hn:0<n) {f:List Int} (hf:f.length=n) (hfx:Bm f m) (r k:Nat):Bm ((L8 n r k).map λx=>nth f x.toNat) m:=by intro y hy;obtain ⟨x,hx,rfl⟩:=List.mem_map.1 hy;have:=Sv hn r k x hx;exact hfx _ (Ao (by omega))
theorem A1b {f xs:List Int} (hl:xs.length<=3) (hx:Bm xs f.length):Eo f xs=some (xs.map λx=>nth f x.toNat):=by
 unfold Eo;have key:=Bp (body:=Cd f xs) (λi=>((i:Int),(xs.take i).map λx=>nth f x.toNat)) xs.length (xs.map λx=>nth f x.toNat) (λi hi=>by
  unfold Cd;dsimp only;have hv:=hx _ (Ao hi);rw [ip0 (by omega),Af (by omega),tna0,Af (by omega),Af (by rw [Az];simp only [List.length_map,List.length_take,List.length_cons,List.length_nil];omega),Af (by omega),Dt hi,List.map_append];rfl) (by
  unfold Cd;dsimp only;rw [in0 (by omega),List.take_length])
 have key':Aj (Cd f xs) (0,Al Int)=_:=key;rw [key'];rfl
structure Homs (a b:SAlgebra) (f:List Int) (n m:Nat):Prop where
 ga:B8 a
 gb:B8 b
 ty:C4 a=C4 b
 sa:a.Size=n
 sb:b.Size=m
 len:f.length=n
 fin:Bm f m
def Ec (a b:SAlgebra) (f:List Int) (n m i k:Nat):Prop:=nth f (nth (nth a.Ops i).Table k).toNat≠nth (nth b.Ops i).Table (It n m f (nth a.Ops i).Arity.toNat k).toNat
def faulty (a b:SAlgebra) (f:List Int) (n m:Nat):Prop := ∃i,i<a.Ops.length /\ ∃k,k<(nth a.Ops i).Table.length/\Ec a b f n m i k
section
variable {a b:SAlgebra}
variable {f:List Int} {n m:Nat}
theorem Homs.ops (h:Homs a b f n m):a.Ops.length=b.Ops.length:=by have:=congrArg List.length h.ty;simpa [C4] using this
theorem Homs.op (h:Homs a b f n m) {i:Nat} (hi:i<a.Ops.length) : ∃r:Nat,r<=3/\(nth a.Ops i).Arity=r/\(nth b.Ops i).Arity=r/\(nth a.Ops i).Table.length=n^r/\(nth b.Ops i).Table.length=m^r/\Bm (nth a.Ops i).Table n/\n^r<=512:=by
 have hn:a.Size.toNat=n:=by have:=h.sa;omega
 have hm:b.Size.toNat=m:=by have:=h.sb;omega
 have hn8:n<=8:=by have:=h.sa;have:=h.ga.2.1;omega
 obtain ⟨h1,h2,h3,h4⟩:=h.ga.2.2.2 _ (Ao hi);have hib:i<b.Ops.length:=by rw [<-h.ops];exact hi
 obtain ⟨_,_,k3,_⟩:=h.gb.2.2.2 _ (Ao hib);have e:(nth a.Ops i).Arity=(nth b.Ops i).Arity:=by have e1:nth (C4 a) i=(nth a.Ops i).Arity:=Gc _ hi;have e2:nth (C4 b) i=(nth b.Ops i).Arity:=Gc _ hib;rw [<-e1,<-e2,h.ty]
 rw [hn] at h3 h4;rw [hm,<-e] at k3;exact ⟨(nth a.Ops i).Arity.toNat,by omega,by omega,by omega,h3,k3,h4,Acw hn8 (by omega)⟩
theorem Homs.pos (h:Homs a b f n m):0<n/\n<=8/\0<m/\m<=8:=by have:=h.sa;have:=h.sb;have:=h.ga.1;have:=h.ga.2.1;have:=h.gb.1;have:=h.gb.2.1;omega
theorem Homs.low (h:Homs a b f n m) {r k:Nat} (hr:r<=3) : ∃c:Nat,It n m f r k=(c:Int)/\c<m^r:=by obtain ⟨hn,_,_,hm⟩:=h.pos;obtain ⟨c,h1,h2,_⟩:=Mr hm (xs:=(L8 n r k).map λx=>nth f x.toNat) (by rw [List.length_map,L0];exact hr) (Adi hn h.len h.fin r k);rw [Ud] at h1;rw [List.length_map,L0] at h2;exact ⟨c,h1,h2⟩
end
def uniq (f:List Int):Prop := ∀i,i<f.length->nth f i∉f.take i
theorem A0o {f:List Int} (hl:f.length<=LIM) (n:Int) (hn1:n<=8):Kt f n=some (decide ((f.length:Int)=n/\Bm f n/\uniq f)):=by
 unfold Kt;by_cases h1:(f.length:Int)=n
 ·rw [in0 (by simpa using h1),Ani _ _ hl];simp only [obs0];by_cases h2:Bm f n
  ·rw [dtr0 h2,ip0 rfl];simp only [obs0];subst h1;rw [Af (by rw [Az];omega),tna0];have this:=Fe (body:=Ei f) (λi=>((i:Int),Mu f.length λz=>decide ((z:Int)∈f.take i))) f.length (λi=>nth f i∈f.take i) () () (λi hi hb=>by
    have hv:=h2 _ (Ao hi);have hc:nth f i=(((nth f i).toNat:Nat):Int):=by omega
    have hlen:=Is f.length λz=>decide ((z:Int)∈f.take i)
    unfold Ei;dsimp only;rw [ip0 (by omega),Af (by omega),tna0,Af (by omega),J8 (by omega),in0 (by rw [<-hc];simpa using hb),Af (by omega),Af (by omega),Abp (by omega)];refine congrArg (λx=>some (Sum.inl (_,x))) (Gq λz _=> ?_);rw [Dt hi];by_cases hz:z=(nth f i).toNat
    ·rw [ip0 hz];refine (dtr0 ?_).symm;rw [List.mem_append,List.mem_singleton];right;omega
    ·rw [in0 hz,decide_eq_decide,List.mem_append,List.mem_singleton];exact ⟨.inl,λh=>h.resolve_right (by omega)⟩) (λi hi hb=>by
    have hv:=h2 _ (Ao hi);have hc:nth f i=(((nth f i).toNat:Nat):Int):=by omega
    have hlen:=Is f.length λz=>decide ((z:Int)∈f.take i)
    unfold Ei;dsimp only;rw [ip0 (by omega),Af (by omega),tna0,Af (by omega),J8 (by omega),ip0 (by rw [<-hc];simpa using hb)]) (by
    unfold Ei;dsimp only;rw [in0 (by omega)]) 0 (by omega)
   have e0:(Mu f.length λz=>decide ((z:Int)∈f.take 0))=List.replicate f.length false:=by rw [Ts];exact Gq λz _=>by simp
   simp only [e0] at this;refine (G9 this false true).trans (congrArg some (Sw ?_));constructor
   ·intro hno;exact ⟨rfl,h2,λi hi hm=>hno ⟨i,by omega,hi,hm⟩⟩
   ·rintro ⟨_,_,hu⟩ ⟨i,_,hi,hm⟩;exact hu i hi hm
  ·rw [dfa0 h2,in0 (by simp),dfa0 (λh=>h2 h.2.1)];rfl
 ·rw [ip0 (by simpa using h1),dfa0 (λh=>h1 h.1)];rfl
theorem Amw {a b:SAlgebra} (h:Du a) (h':Du b):Ep a b=some (decide (B8 a/\B8 b/\C4 a=C4 b)):=by
 unfold Ep;rw [Nc h,Nc h'];simp only [obs0];by_cases ga:B8 a
 ·by_cases gb:B8 b
  ·rw [dtr0 ga,dtr0 gb];simp only [if_true];unfold Ss Mf;rw [Nc h,Nc h',dtr0 ga,dtr0 gb];simp only [obs0,if_true];rw [Axv h,Axv h'];simp only [obs0];rw [Apr (Aix h)];simp only [obs0,if_true];congr 1;rw [decide_eq_decide];exact ⟨λht=>⟨ga,gb,ht⟩,λhh=>hh.2.2⟩
  ·rw [dtr0 ga,dfa0 gb,dfa0 (show ¬(B8 a/\B8 b/\C4 a=C4 b) from λhh=>gb hh.2.1)];simp
 ·rw [dfa0 ga,dfa0 (show ¬(B8 a/\B8 b/\C4 a=C4 b) from λhh=>ga hh.1)];simp
theorem Aun {a b:SAlgebra} (h:Du a) (h':Du b):Ix a b=some (decide (B8 a/\B8 b/\C4 a=C4 b)):=by
 unfold Ix;rw [Y2 h,Y2 h'];simp only [obs0];by_cases ga:B8 a
 ·by_cases gb:B8 b
  ·rw [dtr0 ga,dtr0 gb];simp only [if_true];unfold Jw;rw [Agc h,Agc h'];simp only [obs0];rw [Ahq (Aix h)];simp only [obs0];congr 1;rw [decide_eq_decide];exact ⟨λht=>⟨ga,gb,ht⟩,λhh=>hh.2.2⟩
  ·rw [dtr0 ga,dfa0 gb,dfa0 (show ¬(B8 a/\B8 b/\C4 a=C4 b) from λhh=>gb hh.2.1)];simp
 ·rw [dfa0 ga,dfa0 (show ¬(B8 a/\B8 b/\C4 a=C4 b) from λhh=>ga hh.1)];simp
theorem A7e {f:List Int} (hl:f.length<=LIM) {n:Nat} (hn1:n<=100):Ju f n=some (decide ((f.length:Int)=n/\Bm f n/\uniq f)):=by
 unfold Ju;by_cases h1:(f.length:Int)=n
 ·rw [in0 (by simpa using h1),Awl n f hl (by rw [Az];omega)];simp only [obs0];by_cases h2:Bm f n
  ·rw [dtr0 h2,ip0 rfl];simp only [obs0];have hn:n=f.length:=by omega
   subst hn;rw [Af (by rw [Az];omega),tna0];have this:=Fe (body:=E9 f f.length) (λi=>((i:Int),Mu f.length λz=>decide ((z:Int)∈f.take i))) f.length (λi=>nth f i∈f.take i) () () (λi hi hb=>by
    have hv:=h2 _ (Ao hi);have hc:nth f i=(((nth f i).toNat:Nat):Int):=by omega
    have hlen:=Is f.length λz=>decide ((z:Int)∈f.take i)
    unfold E9;dsimp only;rw [ip0 (by omega),Af (by omega),tna0,Af (by omega),J8 (by omega),in0 (by rw [<-hc];simpa using hb),Af (by omega),Af (by omega),Af (by omega),Abp (by omega)];refine congrArg (λx=>some (Sum.inl (_,x))) (Gq λz _=> ?_);rw [Dt hi];by_cases hz:z=(nth f i).toNat
    ·rw [ip0 hz];refine (dtr0 ?_).symm;rw [List.mem_append,List.mem_singleton];right;omega
    ·rw [in0 hz,decide_eq_decide,List.mem_append,List.mem_singleton];exact ⟨.inl,λh=>h.resolve_right (by omega)⟩) (λi hi hb=>by
    have hv:=h2 _ (Ao hi);have hc:nth f i=(((nth f i).toNat:Nat):Int):=by omega
    have hlen:=Is f.length λz=>decide ((z:Int)∈f.take i)
    unfold E9;dsimp only;rw [ip0 (by omega),Af (by omega),tna0,Af (by omega),J8 (by omega),ip0 (by rw [<-hc];simpa using hb)]) (by
    unfold E9;dsimp only;rw [in0 (by omega)]) 0 (by omega)
   have e0:(Mu f.length λz=>decide ((z:Int)∈f.take 0))=List.replicate f.length false:=by rw [Ts];exact Gq λz _=>by simp
   simp only [e0] at this;refine (G9 this false true).trans (congrArg some (Sw ?_));constructor
   ·intro hno;exact ⟨rfl,h2,λi hi hm=>hno ⟨i,by omega,hi,hm⟩⟩
   ·rintro ⟨_,_,hu⟩ ⟨i,_,hi,hm⟩;exact hu i hi hm
  ·rw [dfa0 h2,in0 (by simp),dfa0 (λh=>h2 h.2.1)];rfl
 ·rw [ip0 (by simpa using h1),dfa0 (λh=>h1 h.1)];rfl
theorem Anw {a:SAlgebra} (h:Du a):Gd a=some a:=by
 unfold Gd;have h0:=h.1;have key:=Bp (body:=Cx a) (λi=>((i:Int),(⟨a.Size,a.Ops.take i⟩:SAlgebra))) a.Ops.length a (λi hi=>by
  have ht:=h.2 _ (Ao hi);unfold Cx;dsimp only;rw [ip0 (by omega),Af (by omega),tna0];unfold Oq Fj;rw [Af (by rw [Az];simp only [List.length_nil];omega)];simp only [obs0,List.nil_append];rw [Af (by rw [Az];simp only [List.length_take,List.length_cons,List.length_nil];omega),Af (by omega),Dt hi];rfl) (by
  unfold Cx;dsimp only;rw [in0 (by omega),List.take_length])
 have key':Aj (Cx a) (0,{ Size:=a.Size,Ops:=Al SOp })=_:=key;rw [key'];rfl
structure Perm (f:List Int) (n:Nat):Prop where
 len:f.length=n
 fin:Bm f n
 un:uniq f
theorem Perm.count {f:List Int} {n:Nat} (h:Perm f n) : ∀i,i<=n->(Av n λz=>decide ((z:Int)∈f.take i)).length=i:=by
 intro i
 induction i with
 | zero=> intro _;rw [List.length_eq_zero_iff];exact Atr.2 λz _=>by simp
 | succ i ih=>
   intro hi;have hil:i<f.length:=by rw [h.len];exact hi
   have hv:=h.fin _ (Ao hil);have hu:=h.un i hil;have hc:nth f i=(((nth f i).toNat:Nat):Int):=by omega
   have:=A3g (q:=λz=>decide ((z:Int)∈f.take i)) (q':=λz=>decide ((z:Int)∈f.take (i+1))) (x:=(nth f i).toNat) (dfa0 (by rw [<-hc];exact hu)) (λz=>by
    rw [Dt hil,Bool.eq_iff_iff];simp only [decide_eq_true_eq,List.mem_append,List.mem_singleton,Bool.or_eq_true];constructor
    ·rintro (h1 | h1)
     ·exact .inl h1
     ·exact .inr (by omega)
    ·rintro (h1 | h1)
     ·exact .inl h1
     ·exact .inr (by omega)) n
   rw [this,ih (by omega),ip0 (by omega)]
theorem Perm.onto {f:List Int} {n:Nat} (h:Perm f n) {v:Nat} (hv:v<n) : ∃x,x<n/\nth f x=(v:Int):=by
 have hc:=h.count n (Nat.le_refl _);have hm:(v:Int)∈f:=by
  apply Classical.byContradiction;intro hno;have hlt:=A6i (q:=λz=>decide ((z:Int)∈f.take n)) (q':=λ_=>true) (x:=v) (dfa0 λhm=>hno (List.mem_of_mem_take hm)) rfl n hv λ_ _ _=>rfl
  rw [A40,hc] at hlt;omega
 obtain ⟨x,hx,e⟩:=H6.1 hm;exact ⟨x,by rw [<-h.len];exact hx,e⟩
theorem Ay1 {f:List Int} {n:Nat} (h:Perm f n) (hn:0<n) : ∀r p,p<n^r -> ∃k,k<n^r/\It n n f r k=(p:Int):=by
 intro r
 induction r with
 | zero=>
   intro p hp;have:p=0:=by simpa using hp
   subst this;exact ⟨0,by simp,rfl⟩
 | succ r ih=>
   intro p hp;rw [Nat.pow_succ] at hp;obtain ⟨k,hk,e⟩:=ih (p/n) (Nat.div_lt_of_lt_mul (by rw [Nat.mul_comm];exact hp));obtain ⟨x,hx,ex⟩:=h.onto (Nat.mod_lt p hn);have d1:(k*n+x)/n=k:=by rw [Nat.mul_comm,Nat.mul_add_div hn,Nat.div_eq_of_lt hx];omega
   have d2:(k*n+x)%n=x:=by rw [Nat.mul_comm,Nat.mul_add_mod,Nat.mod_eq_of_lt hx]
   refine ⟨k*n+x,?_,?_⟩
   ·have h1:=Nat.mul_le_mul_right n (show k+1<=n^r by omega);rw [Nat.succ_mul] at h1;rw [Nat.pow_succ];omega
   ·simp only [It];rw [d1,d2,e,ex];have:=Nat.div_add_mod p n;rw [Nat.mul_comm] at this;exact_mod_cast this
def wr (f T:List Int) (n r:Nat) (t0:List Int):Nat->List Int
 | 0=>t0
 | k+1=>(wr f T n r t0 k).set (It n n f r k).toNat (nth f (nth T k).toNat)
theorem R3 (f T:List Int) (n r:Nat) (t0:List Int) : ∀k,(wr f T n r t0 k).length=t0.length:=by
 intro k
 induction k with
 | zero=>rfl
 | succ k ih=>simp [wr,ih]
theorem A9o {f T:List Int} {n r:Nat} {t0 t1:List Int} (hl:t0.length=t1.length) : ∀k p,p<t0.length->(∃j,j<k/\(It n n f r j).toNat=p)->nth (wr f T n r t0 k) p=nth (wr f T n r t1 k) p:=by
 intro k
 induction k with
 | zero=>rintro p _ ⟨j,hj,_⟩;omega
 | succ k ih=>
   intro p hp hx;simp only [wr];rw [H5 _ _ _ _ (by rw [R3];exact hp),H5 _ _ _ _ (by rw [R3];omega)];by_cases e:(It n n f r k).toNat=p
   ·rw [ip0 e,ip0 e]
   ·rw [in0 e,in0 e];refine ih p hp ?_;obtain ⟨j,hj,ej⟩:=hx;exact ⟨j,by
     rcases Nat.lt_succ_iff_lt_or_eq.1 hj with h | rfl
     ·exact h
     ·exact absurd ej e,ej⟩
theorem Bcr {f T:List Int} {n r:Nat} (h:Perm f n) (hn:0<n) {t0 t1:List Int} (hl:t0.length=n^r) (hl1:t1.length=n^r):wr f T n r t0 (n^r)=wr f T n r t1 (n^r):=by
 refine Qh (by rw [R3,R3,hl,hl1]) λp hp=> ?_
 rw [R3] at hp;obtain ⟨k,hk,e⟩:=Ay1 h hn r p (by rw [<-hl];exact hp);exact A9o (by rw [hl,hl1]) _ p hp ⟨k,hk,by rw [e];rfl⟩
def Iu (f:List Int) (n:Nat) (o:SOp):SOp:=⟨o.Arity,wr f o.Table n o.Arity.toNat (List.replicate o.Table.length 0) o.Table.length⟩
section
variable {a:SAlgebra}
variable {f:List Int} {n:Nat}
theorem Aw1 (ga:B8 a) (hn:a.Size=n) {i:Nat} (hi:i<a.Ops.length) : ∃r:Nat,r<=3/\(nth a.Ops i).Arity=r/\(nth a.Ops i).Table.length=n^r/\Bm (nth a.Ops i).Table n/\n^r<=512/\0<n/\n<=8:=by
 have hnn:a.Size.toNat=n:=by omega
 have:=ga.1;have:=ga.2.1;obtain ⟨h1,h2,h3,h4⟩:=ga.2.2.2 _ (Ao hi);rw [hnn] at h3 h4;exact ⟨(nth a.Ops i).Arity.toNat,by omega,by omega,h3,h4,Acw (by omega) (by omega),by omega,by omega⟩
theorem Apc (h:Perm f n) (hn:0<n) (hn8:n<=8) {r:Nat} (hr:r<=3) (k:Nat) : ∃c:Nat,It n n f r k=(c:Int)/\c<n^r:=by obtain ⟨c,h1,h2,_⟩:=Mr hn8 (xs:=(L8 n r k).map λx=>nth f x.toNat) (by rw [List.length_map,L0];exact hr) (Adi hn h.len h.fin r k);rw [Ud] at h1;rw [List.length_map,L0] at h2;exact ⟨c,h1,h2⟩
theorem Baq (ga:B8 a) (hn:a.Size=n) (h:Perm f n) {i:Nat} (hi:i<a.Ops.length) (x5:SAlgebra):Aj (Dz a f (i:Int) x5) (0,(⟨(nth a.Ops i).Arity,List.replicate (nth a.Ops i).Table.length 0⟩:SOp))=some (Iu f n (nth a.Ops i)):=by
 obtain ⟨r,hr,e1,l1,t1,l3,hn0,hn8⟩:=Aw1 ga hn hi;have hlf:=h.len;have er:(nth a.Ops i).Arity.toNat=r:=by omega
 exact Bp (body:=Dz a f (i:Int) x5) (λk=>((k:Int),(⟨(nth a.Ops i).Arity,wr f (nth a.Ops i).Table n (nth a.Ops i).Arity.toNat (List.replicate (nth a.Ops i).Table.length 0) k⟩:SOp))) (nth a.Ops i).Table.length (Iu f n (nth a.Ops i)) (λk hk=>by
  have hv:=t1 _ (Ao hk);have hwl:(wr f (nth a.Ops i).Table n r (List.replicate (nth a.Ops i).Table.length 0) k).length=(nth a.Ops i).Table.length:=by rw [R3,List.length_replicate]
  obtain ⟨c,hc1,hc2⟩:=Apc h hn0 hn8 hr k;unfold Dz;dsimp only;simp only [hwl,e1,hn,tna0];rw [ip0 (by omega),Ac4 hn0 hn8 hr (by omega)];simp only [obs0];have hal:=L0 n r k;have key:=Bp (body:=D0 a f (i:Int) x5 (k:Int) (⟨(r:Int),wr f (nth a.Ops i).Table n r (List.replicate (nth a.Ops i).Table.length 0) k⟩:SOp) (L8 n r k)) (λj=>((j:Int),Uc n (((L8 n r k).map λx=>nth f x.toNat).take j))) (L8 n r k).length (It n n f r k) (λj hj=>by
   have hx:=Sv hn0 r k _ (Ao hj);have hml:((L8 n r k).map λx=>nth f x.toNat).length<=3:=by rw [List.length_map,hal];exact hr
   have hjl:j<((L8 n r k).map λx=>nth f x.toNat).length:=by rw [List.length_map];exact hj
   obtain ⟨s1,s2⟩:=Ajp hn8 hml (Adi hn0 h.len h.fin r k) hjl;rw [Gc _ hj] at s2;unfold D0;dsimp only;rw [hn,ip0 (by omega),Af s1,Af (by omega),tna0,Af (by omega),Af s2,Af (by omega),Aie hjl,Gc _ hj];rfl) (by
   unfold D0;dsimp only;rw [in0 (by omega)];have e:((L8 n r k).map λx=>nth f x.toNat).take (L8 n r k).length=(L8 n r k).map λx=>nth f x.toNat:=List.take_of_length_le (by rw [List.length_map];exact Nat.le_refl _)
   rw [e,Ud])
  have key':Aj (D0 a f (i:Int) x5 (k:Int) (⟨(r:Int),wr f (nth a.Ops i).Table n r (List.replicate (nth a.Ops i).Table.length 0) k⟩:SOp) (L8 n r k)) (0,0)=some (It n n f r k):=key;rw [key'];simp only [obs0];rw [Af (by omega),Af (by omega),Af (by omega),Af (by rw [hc1];omega),Af (by omega)];rfl) (by
  unfold Dz;dsimp only;rw [R3,List.length_replicate,in0 (by omega)];rfl)
theorem A1m (ga:B8 a) (hn:a.Size=n) (h:Perm f n):Hb a f=some ⟨a.Size,a.Ops.map (Iu f n)⟩:=by
 have h4:=ga.2.2.1;unfold Hb;have key:=Bp (body:=D1 a f) (λi=>((i:Int),(⟨a.Size,(a.Ops.take i).map (Iu f n)⟩:SAlgebra))) a.Ops.length ⟨a.Size,a.Ops.map (Iu f n)⟩ (λi hi=>by
  obtain ⟨r,hr,e1,l1,t1,l3,hn0,hn8⟩:=Aw1 ga hn hi;unfold D1;dsimp only;simp only [tna0];rw [ip0 (by omega)];repeat rw [Af (by first | omega | (rw [Az];omega))]
  rw [Baq ga hn h hi];simp only [obs0];rw [Af (by rw [Az];simp only [List.length_map,List.length_take,List.length_cons,List.length_nil];omega),Af (by omega),Dt hi,List.map_append];rfl) (by
  unfold D1;dsimp only;rw [in0 (by omega),List.take_length])
 have key':Aj (D1 a f) (0,{ Size:=a.Size,Ops:=Al SOp })=_:=key;rw [key'];rfl
theorem A8v (h:Perm f n) (_hn8:n<=8) (x18 x26:Int) (x5:SAlgebra) {xs:List Int} (hl:xs.length<=3) (hx:Bm xs n):Aj (D8 a f x18 x26 x5 xs) (0,xs)=some (xs.map λx=>nth f x.toNat):=by
 have hlf:=h.len;have key:=Bp (body:=D8 a f x18 x26 x5 xs) (λj=>((j:Int),(xs.take j).map (λx=>nth f x.toNat)++xs.drop j)) xs.length (xs.map λx=>nth f x.toNat) (λj hj=>by
  have hv:=hx _ (Ao hj);have hll:((xs.take j).map (λx=>nth f x.toNat)++xs.drop j).length=xs.length:=by simp;omega
  have hnj:nth ((xs.take j).map (λx=>nth f x.toNat)++xs.drop j) j=nth xs j:=by rw [Cz (by omega),Cz hj,List.getElem_append_right (by simp;omega),List.getElem_drop];congr 1;simp;omega
  unfold D8;dsimp only;rw [ip0 (by omega),Af (by omega),tna0,hnj,Af (by omega),Af (by omega),Af (by omega)];have e:((xs.take j).map (λx=>nth f x.toNat)++xs.drop j).set j (nth f (nth xs j).toNat)=(xs.take (j+1)).map (λx=>nth f x.toNat)++xs.drop (j+1):=by
   have hml:((xs.take j).map λx=>nth f x.toNat).length=j:=by simp;omega
   rw [List.set_append_right _ _ (by omega),hml,Nat.sub_self,As1 hj,List.set_cons_zero,Dt hj,List.map_append,List.append_assoc];rfl
  rw [e];rfl) (by
  unfold D8;dsimp only;rw [in0 (by omega)];simp)
 have key':Aj (D8 a f x18 x26 x5 xs) (0,xs)=some (xs.map λx=>nth f x.toNat):=by simpa using key
 exact key'
theorem A8p (ga:B8 a) (hn:a.Size=n) (h:Perm f n) {i:Nat} (hi:i<a.Ops.length) (os:List SOp) (ho:os.length=a.Ops.length) (hoi:nth os i=nth a.Ops i) (z:Int):Aj (Fb a f (i:Int)) (0,(⟨z,os⟩:SAlgebra))=some ⟨z,os.set i (Iu f n (nth a.Ops i))⟩:=by
 obtain ⟨r,hr,e1,l1,t1,l3,hn0,hn8⟩:=Aw1 ga hn hi;have hlf:=h.len;have er:(nth a.Ops i).Arity.toNat=r:=by omega
 have key:=Bp (body:=Fb a f (i:Int)) (λk=>((k:Int),(⟨z,os.set i ⟨(nth a.Ops i).Arity,wr f (nth a.Ops i).Table n r (nth a.Ops i).Table k⟩⟩:SAlgebra))) (nth a.Ops i).Table.length ⟨z,os.set i (Iu f n (nth a.Ops i))⟩ (λk hk=>by
  have hv:=t1 _ (Ao hk);have hal:=L0 n r k;obtain ⟨c,hc1,hc2⟩:=Apc h hn0 hn8 hr k;have hs:nth (os.set i ⟨(nth a.Ops i).Arity,wr f (nth a.Ops i).Table n r (nth a.Ops i).Table k⟩) i=⟨(nth a.Ops i).Arity,wr f (nth a.Ops i).Table n r (nth a.Ops i).Table k⟩:=by rw [H5 _ _ _ _ (by omega),ip0 rfl]
  have hwl:=R3 f (nth a.Ops i).Table n r (nth a.Ops i).Table k;unfold Fb;dsimp only;rw [tna0,ip0 (by omega),Af (by omega),e1,hn,A6b hn0 hn8 hr (by omega)];simp only [obs0];rw [A8v h hn8 _ _ _ (by omega) (Sv hn0 r k)];simp only [obs0];rw [Af (by rw [List.length_set];omega),A3d hn8 (by rw [List.length_map,hal];exact hr) (Adi hn0 h.len h.fin r k),Ud];simp only [obs0,tna0];rw [<-e1,hs];dsimp only;rw [hwl,Af (by omega),Af (by rw [hc1];omega),Af (by omega),List.set_set];rfl) (by
  unfold Fb;dsimp only;rw [tna0,in0 (by omega)];have e:Iu f n (nth a.Ops i)=⟨(nth a.Ops i).Arity,wr f (nth a.Ops i).Table n r (nth a.Ops i).Table (nth a.Ops i).Table.length⟩:=by unfold Iu;rw [er];congr 1;rw [l1];exact Bcr h hn0 (by simp) l1
  rw [e])
 have e0:os.set i ⟨(nth a.Ops i).Arity,wr f (nth a.Ops i).Table n r (nth a.Ops i).Table 0⟩=os:=by
  have:(⟨(nth a.Ops i).Arity,wr f (nth a.Ops i).Table n r (nth a.Ops i).Table 0⟩:SOp)=nth os i:=by rw [hoi];rfl
  rw [this];refine Qh (by simp) λj hj=> ?_
  have hj':j<os.length:=by simpa using hj
  rw [H5 _ _ _ _ hj'];by_cases hij:i=j
  ·subst hij;rw [ip0 rfl]
  ·rw [in0 hij]
 simp only [e0] at key;exact key
theorem A6e (hsm:Du a) (ga:B8 a) (hn:a.Size=n) (h:Perm f n):Lt a f=some ⟨a.Size,a.Ops.map (Iu f n)⟩:=by
 have h4:=ga.2.2.1;unfold Lt;rw [Anw hsm];simp only [obs0];have key:=Bp (body:=E3 a f) (λi=>((i:Int),(⟨a.Size,(a.Ops.take i).map (Iu f n)++a.Ops.drop i⟩:SAlgebra))) a.Ops.length ⟨a.Size,a.Ops.map (Iu f n)⟩ (λi hi=>by
  have hml:((a.Ops.take i).map (Iu f n)).length=i:=by simp;omega
  have hnj:nth ((a.Ops.take i).map (Iu f n)++a.Ops.drop i) i=nth a.Ops i:=by rw [Cz (by simp;omega),Cz hi,List.getElem_append_right (by omega),List.getElem_drop];congr 1;omega
  unfold E3;dsimp only;rw [ip0 (by omega),Af (by omega),A8p ga hn h hi _ (by simp;omega) hnj];simp only [obs0];rw [Af (by omega),List.set_append_right _ _ (by omega),hml,Nat.sub_self,As1 hi,List.set_cons_zero,Dt hi,List.map_append,List.append_assoc];rfl) (by
  unfold E3;dsimp only;rw [in0 (by omega)];simp)
 have key':Aj (E3 a f) (0,a)=some ⟨a.Size,a.Ops.map (Iu f n)⟩:=by simpa using key
 rw [key'];rfl
end
end Go.Proofs.YtmkgjnphianalaaGreat.Ax
namespace Go.Proofs.YtmkgjnphianalaaGreat.Ax
open Go
def Cur (k:Nat) (c:Sl1Cur):Prop:=(∀x∈c.code,0<=x/\x<=255)/\c.code.length<=65536/\0<=c.at_/\c.at_<=k
theorem Cur.mono {k l:Nat} {c:Sl1Cur} (h:Cur k c) (hl:k<=l):Cur l c:=⟨h.1,h.2.1,h.2.2.1,by have:=h.2.2.2;omega⟩
theorem A60 {n:Int} (h0:0<=n) (h1:n<=255):IntKind.u64.wrap n=n:=by simp [IntKind.wrap,IntKind.bits,IntKind.signed];omega
theorem At1 {c:Sl1Cur} {k:Nat} (h:Cur k c) (hk:k<=1000000000) : ∃r d,Fv c=some (r,d)/\Cur (k+1) d/\0<=r/\r<=255:=by
 obtain ⟨h1,h2,h3,h4⟩:=h;unfold Fv;have fin : ∀q:Int,0<=q->q<=255 -> ∃r d,(ask (InI (c.at_+1)) <|
   if c.at_+1<=(c.code.length:Int) then
    some (q,({ code:=c.code,at_:=c.at_+1,seed:=IntKind.u64.wrap (IntKind.u64.wrap (IntKind.u64.wrap (c.seed*6364136223846793005)+IntKind.u64.wrap q)+550289) }:Sl1Cur))
   else some (IntKind.i64.wrap (IntKind.u64.wrap (((BitVec.ofInt IntKind.u64.bits ((IntKind.u64.wrap (IntKind.u64.wrap (IntKind.u64.wrap (c.seed*6364136223846793005)+IntKind.u64.wrap q)+550289)).fdiv (2^min (Int.toNat 40) IntKind.u64.bits)) &&& BitVec.ofInt IntKind.u64.bits 255).toNat:Nat):Int)),
    ({ code:=c.code,at_:=c.at_+1,seed:=IntKind.u64.wrap (IntKind.u64.wrap (IntKind.u64.wrap (c.seed*6364136223846793005)+IntKind.u64.wrap q)+550289) }:Sl1Cur)))=some (r,d)/\Cur (k+1) d/\0<=r/\r<=255:=by
  intro q hq0 hq1;rw [Af (by omega)];split
  ·exact ⟨_,_,rfl,⟨h1,h2,by show 0<=c.at_+1;omega,by show c.at_+1<=((k+1:Nat):Int);omega⟩,hq0,hq1⟩
  ·refine ⟨_,_,rfl,⟨h1,h2,by show 0<=c.at_+1;omega,by show c.at_+1<=((k+1:Nat):Int);omega⟩,?_⟩;generalize BitVec.ofInt IntKind.u64.bits ((IntKind.u64.wrap (IntKind.u64.wrap (IntKind.u64.wrap (c.seed*6364136223846793005)+IntKind.u64.wrap q)+550289)).fdiv (2^min (Int.toNat 40) IntKind.u64.bits))=b;have hb:(b &&& BitVec.ofInt IntKind.u64.bits 255).toNat<=255:=by
    rw [BitVec.toNat_and];have:(BitVec.ofInt IntKind.u64.bits 255).toNat=255:=by decide
    rw [this];exact Nat.and_le_right
   generalize (b &&& BitVec.ofInt IntKind.u64.bits 255).toNat=z at hb;rw [A60 (by omega) (by omega),Vw (by omega) (by omega)];omega
 by_cases hc:c.at_<(c.code.length:Int)
 ·rw [ip0 hc,Af ⟨h3,hc⟩];have hm:=h1 _ (Ao (xs:=c.code) (i:=c.at_.toNat) (by omega));rw [Vw (by omega) (by omega)];simp only [obs0];exact fin _ hm.1 hm.2
 ·rw [in0 hc];simp only [obs0];exact fin 0 (by omega) (by omega)
theorem Fc {c:Sl1Cur} {k:Nat} (h:Cur k c) (hk:k<=900000000) (n:Int) : ∃r d,A9 c n=some (r,d)/\Cur (k+2) d/\0<=r/\(r<n\/(n<=1/\r=0)):=by
 unfold A9;by_cases h1:n<=1
 ·rw [ip0 h1];exact ⟨0,c,rfl,h.mono (by omega),by omega,.inr ⟨h1,rfl⟩⟩
 ·rw [in0 h1];obtain ⟨r,d,e,hd,a1,a2⟩:=At1 h (by omega);simp only [e,obs0];by_cases h2:n>200
  ·rw [ip0 h2,Af (by omega)];obtain ⟨r2,d2,e2,hd2,b1,b2⟩:=At1 hd (by omega);simp only [e2,obs0];rw [Af (by omega),Af (by omega)];refine ⟨_,_,rfl,hd2,Int.tmod_nonneg _ (by omega),.inl ?_⟩;exact Int.tmod_lt_of_pos _ (by omega)
  ·rw [in0 h2,Af (by omega)];refine ⟨_,_,rfl,hd.mono (by omega),Int.tmod_nonneg _ (by omega),.inl ?_⟩;exact Int.tmod_lt_of_pos _ (by omega)
theorem Ayt {c:Sl1Cur} {k:Nat} (h:Cur k c) (hk:k<=900000000) (n:Int) : ∃b d,Gp c n=some (b,d)/\Cur (k+2) d:=by unfold Gp;obtain ⟨r,d,e,hd,_,_⟩:=Fc h hk n;simp only [e,obs0];exact ⟨_,_,rfl,hd⟩
theorem Ml {c:Sl1Cur} {k:Nat} (h:Cur k c) (hk:k<=900000000) (l:List Int) (h0:0<l.length) : ∃r d,B9 c l=some (r,d)/\Cur (k+2) d/\r∈l:=by unfold B9;obtain ⟨r,d,e,hd,a1,a2⟩:=Fc h hk (l.length:Int);simp only [e,obs0];rw [Af (by omega)];exact ⟨_,_,rfl,hd,Ao (by omega)⟩
theorem Aou {c:Sl1Cur} {k:Nat} (h:Cur k c) (hk:k<=800000000) (n:Nat) (hn:n<=10) : ∃l d,Co c (n:Int)=some (l,d)/\Cur (k+40) d/\l.length<=11:=by
 unfold Co;obtain ⟨⟨l,d⟩,e,hl,hd⟩:=Fn (body:=Cv (n:Int)) (λs => ∃i:Nat,s.1=(i:Int)/\i<=n/\s.2.1.length=i/\Cur (k+2*i) s.2.2) (λs=>n-s.1.toNat)
  (λt=>t.1.length=n/\Cur (k+2*n) t.2) (λs hs=>by
   obtain ⟨x6,x5,x53⟩:=s;obtain ⟨i,e1,e2,e3,e4⟩:=hs;simp only at e1 e3 e4;subst e1;unfold Cv;dsimp only;by_cases hi:i<n
   ·left;rw [ip0 (by omega),Af (by omega)];obtain ⟨r,d,e5,hd,a1,a2⟩:=Fc e4 (by omega) ((x5.length:Int)+1);simp only [e5,obs0];have hr:r<=(x5.length:Int):=by omega
    have ht:(List.take (r.toNat-Int.toNat 0) (List.drop (Int.toNat 0) x5)).length=r.toNat:=by simp;omega
    have hd2:(List.take ((x5.length:Int).toNat-r.toNat) (List.drop r.toNat x5)).length=x5.length-r.toNat:=by simp
    have hL:=Az;have h0:(Al Int).length=0:=rfl;rw [Af ⟨by omega,a1,hr⟩,Af (by rw [h0,ht];omega),Af (by rw [List.length_append,h0,ht];simp;omega),Af ⟨a1,hr,by omega⟩,Af (by rw [List.length_append,List.length_append,h0,ht,hd2];simp;omega),
     Af (by omega)]
    refine ⟨_,rfl,⟨i+1,by simp,by omega,?_,hd.mono (by omega)⟩,?_⟩
    ·simp only [List.length_append,h0,ht,hd2];simp;omega
    ·simp only;omega
   ·right;rw [in0 (by omega)];have:i=n:=by omega
    subst this;exact ⟨_,rfl,e3,e4⟩) (s:=(0,Al Int,c)) ⟨0,by simp,by omega,rfl,h⟩
 simp only at hl hd;rw [e];simp only [obs0];obtain ⟨r,d2,e2,hd2,a1,a2⟩:=Fc hd (by omega) 24;simp only [e2,obs0];have hL:=Az;by_cases h0:r=0
 ·rw [ip0 h0,Af (by simp;omega)];exact ⟨_,_,rfl,hd2.mono (by omega),by simp;omega⟩
 ·rw [in0 h0];by_cases h1:r=1
  ·rw [ip0 h1];by_cases h3:(n:Int)>0
   ·rw [ip0 h3];obtain ⟨r3,d3,e3,hd3,b1,b2⟩:=Fc hd2 (by omega) (n:Int);simp only [e3,obs0];obtain ⟨r4,d4,e4,hd4,b3⟩:=Ml hd3 (by omega) [0, -1,(n:Int)] (by simp);simp only [e4,obs0];rw [Af (by omega)];exact ⟨_,_,rfl,hd4.mono (by omega),by simp;omega⟩
   ·rw [in0 h3];exact ⟨_,_,rfl,hd2.mono (by omega),by omega⟩
  ·rw [in0 h1];exact ⟨_,_,rfl,hd2.mono (by omega),by omega⟩
open Classical
open Classical
def Anu (n r k:Nat) (S:Nat->Bool):Prop := ∀x∈L8 n r k,S x.toNat=true
theorem Akk {n r k:Nat} {S T:Nat->Bool} (h : ∀z,S z=true->T z=true) (hi:Anu n r k S):Anu n r k T:=λx hx=>h _ (hi x hx)
def Alo (a:SAlgebra) (i k:Nat):Nat:=(nth (nth a.Ops i).Table k).toNat
def Akh (a:SAlgebra) (i k:Nat) (S:Nat->Bool):Prop:=Anu a.Size.toNat (nth a.Ops i).Arity.toNat k S
def Vj (a:SAlgebra) (S:Nat->Bool):Prop := ∀i,i<a.Ops.length -> ∀k,k<(nth a.Ops i).Table.length->Akh a i k S->S (Alo a i k)=true
noncomputable def Agn (a:SAlgebra) (S:Nat->Bool):Nat->Bool:=λz=>decide (∀T:Nat->Bool,(∀x,S x=true->T x=true)->Vj a T->T z=true)
theorem Ai2 {a:SAlgebra} {S:Nat->Bool} (z:Nat) (h:S z=true):Agn a S z=true:=dtr0 λ_ hT _=>hT z h
theorem Akj {a:SAlgebra} {S:Nat->Bool}:Vj a (Agn a S):=by
 intro i hi k hk ha;refine dtr0 λT hT hc=> ?_
 exact hc i hi k hk λx hx=>of_decide_eq_true (ha x hx) T hT hc
theorem Apf {a:SAlgebra} {S T:Nat->Bool} (hT : ∀x,S x=true->T x=true) (hc:Vj a T) (z:Nat) (h:Agn a S z=true):T z=true:=of_decide_eq_true h T hT hc
theorem A3j {a:SAlgebra} {S:Nat->Bool} (hc:Vj a S):Agn a S=S:=by
 funext z;cases h:S z with
 | true=>exact Ai2 z h
 | false=>
   cases h2:Agn a S z with
   | false=>rfl
   | true=>rw [Apf (λ_ h=>h) hc z h2] at h;cases h
def Am9 (H:List Bool):Nat:=H.count true
theorem A9b (H:List Bool):Am9 H<=H.length:=List.count_le_length
theorem A5h {H:List Bool} {v z:Nat} (hv:v<H.length):nth (H.set v true) z=true↔z=v\/nth H z=true:=by
 by_cases hz:z<H.length
 ·rw [H5 _ _ _ _ hz];by_cases e:v=z
  ·subst e;simp
  ·rw [in0 e];exact ⟨.inr,λh=>h.resolve_left (Ne.symm e)⟩
 ·have h1:nth H z=false:=by rw [Awe,List.getD_eq_getElem?_getD,List.getElem?_eq_none (by omega)];rfl
  have h2:nth (H.set v true) z=false:=by rw [Awe,List.getD_eq_getElem?_getD,List.getElem?_eq_none (by simp;omega)];rfl
  rw [h1,h2];constructor
  ·intro h;cases h
  ·rintro (h | h)
   ·omega
   ·cases h
theorem A92 {H:List Bool} {z:Nat} (h:nth H z=true):z<H.length:=by apply Classical.byContradiction;intro hc;rw [Awe,List.getD_eq_getElem?_getD,List.getElem?_eq_none (by omega)] at h;cases h
theorem A31 {H K:List Bool} (hl:H.length=K.length) (h : ∀z,nth H z=true->nth K z=true):Am9 H<=Am9 K/\(Am9 K<=Am9 H->H=K):=by
 induction H generalizing K with
 | nil=>cases K with
   | nil=>exact ⟨Nat.le_refl _,λ_=>rfl⟩
   | cons=>simp at hl
 | cons x r ih=>
   cases K with
   | nil=>simp at hl
   | cons y s=>
     have hl':r.length=s.length:=by simpa using hl
     obtain ⟨h1,h2⟩:=ih hl' λz hz=>h (z+1) hz
     have h0:x=true->y=true:=λhx=>h 0 hx
     unfold Am9 at *;cases x<;>cases y
     ·simp only [List.count_cons];exact ⟨by simpa using h1,λhh=>by rw [h2 (by simpa using hh)]⟩
     ·simp only [List.count_cons];refine ⟨by simp;omega,λhh=> ?_⟩;simp at hh;omega
     ·exact absurd (h0 rfl) (by simp)
     ·simp only [List.count_cons];exact ⟨by simpa using h1,λhh=>by rw [h2 (by simpa using hh)]⟩
section
variable {a:SAlgebra}
structure ReadyA (a:SAlgebra) (n:Nat):Prop where
 good:B8 a
 sz:a.Size=(n:Int)
 pos:0<n
 le:n<=8
theorem Bbl (hg:B8 a):ReadyA a a.Size.toNat:=⟨hg,by have:=hg.1;omega,by have:=hg.1;omega,by have:=hg.2.1;omega⟩
theorem ReadyA.nat {n:Nat} (h:ReadyA a n):a.Size.toNat=n:=by have:=h.sz;omega
theorem ReadyA.op {n:Nat} (h:ReadyA a n) {i:Nat} (hi:i<a.Ops.length) : ∃r:Nat,(nth a.Ops i).Arity=(r:Int)/\r<=3/\(nth a.Ops i).Table.length=n^r/\Bm (nth a.Ops i).Table n/\(nth a.Ops i).Table.length<=512/\(∀k S,Akh a i k S↔Anu n r k S):=by have:=h.good.2.2.2 _ (Ao hi);rw [h.nat] at this;obtain ⟨h1,h2,h3,h4⟩:=this;refine ⟨(nth a.Ops i).Arity.toNat,by omega,by omega,h3,h4,?_,λk S=>by unfold Akh;rw [h.nat]⟩;rw [h3];exact Acw h.le (by omega)
theorem ReadyA.val {n:Nat} (h:ReadyA a n) {i k:Nat} (hi:i<a.Ops.length) (hk:k<(nth a.Ops i).Table.length):nth (nth a.Ops i).Table k=(Alo a i k:Int)/\Alo a i k<n:=by obtain ⟨r,_,_,_,h4,_⟩:=h.op hi;have:=h4 _ (Ao hk);unfold Alo;omega
structure Pass (n:Nat) (G:Nat->Bool) (c0:Bool) (H0:List Bool) (c:Bool) (H:List Bool) (done:(Nat->Bool)->Prop):Prop where
 len:H.length=n
 more : ∀z,nth H0 z=true->nth H z=true
 low : ∀z,nth H z=true->G z=true
 up:c=true->c0=true\/Am9 H0<Am9 H
 no:c=false->c0=false/\H=H0/\done (nth H)
 mono:Am9 H0<=Am9 H
def Aby (a:SAlgebra) (n:Nat) (xs:List Int):Prop:=Bm xs n/\Z9 xs/\Av n (Agn a λz=>decide ((z:Int)∈xs))=xs
theorem Bca {n:Nat} {H:List Bool} (hH:H.length=n) {x6 x7:Int} {o:List Bool} {xs:List Int} (hx:Bm xs n) (hl:xs.length<=3) :
  Aj (Fh a H x6 x7 o xs) (0,true)=some (decide (∀x∈xs,nth H x.toNat=true)):=by
 have key:=Bp (body:=Fh a H x6 x7 o xs) (λi=>((i:Int),decide (∀x∈xs.take i,nth H x.toNat=true))) xs.length (decide (∀x∈xs,nth H x.toNat=true)) (λi hi=>by
  have hc:=hx _ (Ao hi);have ht:=Dt hi;unfold Fh;dsimp only;rw [ip0 (by omega)];by_cases hb : ∀x∈xs.take i,nth H x.toNat=true
  ·rw [dtr0 hb,ip0 rfl,Af (by omega),tna0,Af (by rw [hH];omega),Af (by omega)];congr 3;rw [ht,Bool.eq_iff_iff,decide_eq_true_eq];constructor
   ·intro h1 x hm;rcases List.mem_append.1 hm with hm | hm
    ·exact hb x hm
    ·rw [List.mem_singleton.1 hm];exact h1
   ·intro h1;exact h1 _ (by simp)
  ·rw [dfa0 hb,in0 (by simp),Af (by omega)];congr 3;refine (dfa0 λh1=>hb λx hm=>h1 x ?_).symm;rw [ht];exact List.mem_append_left _ hm) (by
  unfold Fh;dsimp only;rw [in0 (by omega),List.take_length])
 simpa using key
theorem Bcd {n:Nat} (h:ReadyA a n) {H:List Bool} (hH:H.length=n) {i:Nat} (hi:i<a.Ops.length) {H0:List Bool} (hl:H0.length=n) :
  ∃K,Aj (Gl a H (i:Int)) (0,H0)=some K/\K.length=n /\ ∀z,nth K z=true↔nth H0 z=true \/ ∃k,k<(nth a.Ops i).Table.length/\Akh a i k (nth H)/\z=Alo a i k:=by
 obtain ⟨r,hr,hr3,_,htab,h512,hargs⟩:=h.op hi;refine Fn (body:=Gl a H (i:Int)) (λs => ∃k:Nat,s.1=(k:Int)/\k<=(nth a.Ops i).Table.length/\s.2.length=n /\ ∀z,nth s.2 z=true↔nth H0 z=true \/ ∃j,j<k/\Akh a i j (nth H)/\z=Alo a i j)
  (λs=>(nth a.Ops i).Table.length-s.1.toNat) _ (λs hs=> ?_) ⟨0,rfl,Nat.zero_le _,hl,λz=>⟨.inl,λhz=>hz.resolve_right (by rintro ⟨j,hj,_⟩;omega)⟩⟩
 obtain ⟨x,K⟩:=s;obtain ⟨k,hk,hkl,h1,h2⟩:=hs;simp only at hk hkl h1 h2;subst hk;unfold Gl;dsimp only;rw [Af (by omega),tna0];by_cases hlt:k<(nth a.Ops i).Table.length
 ·left;obtain ⟨ev,hv⟩:=h.val hi hlt;have hal:=L0 n r k;rw [ip0 (by omega),Af (by omega),hr,h.sz,Ac4 h.pos h.le hr3 (by omega)];simp only [obs0];rw [Bca hH (Sv h.pos r k) (by omega)];simp only [obs0];by_cases ha:Anu n r k (nth H)
  ·rw [dtr0 (show ∀x∈L8 n r k,nth H x.toNat=true from ha),ip0 rfl,Af (by omega),Af (by omega),tna0,ev,Af (by rw [h1];omega),tna0,Af (by omega)];have hvl:Alo a i k<K.length:=by rw [h1];exact hv
   refine ⟨_,rfl,⟨k+1,rfl,hlt,by rw [List.length_set];exact h1,λz=> ?_⟩,by simp only;omega⟩;rw [A5h hvl,h2];constructor
   ·rintro (rfl | hz | ⟨j,hj,hb,e⟩)
    ·exact .inr ⟨k,by omega,(hargs _ _).2 ha,rfl⟩
    ·exact .inl hz
    ·exact .inr ⟨j,by omega,hb,e⟩
   ·rintro (hz | ⟨j,hj,hb,e⟩)
    ·exact .inr (.inl hz)
    ·by_cases ej:j=k
     ·subst ej;exact .inl e
     ·exact .inr (.inr ⟨j,by omega,hb,e⟩)
  ·rw [dfa0 (show ¬ ∀x∈L8 n r k,nth H x.toNat=true from ha),in0 (by simp),Af (by omega)];refine ⟨_,rfl,⟨k+1,rfl,hlt,h1,λz=> ?_⟩,by simp only;omega⟩;simp only;rw [h2];constructor
   ·rintro (hz | ⟨j,hj,hb,e⟩)
    ·exact .inl hz
    ·exact .inr ⟨j,by omega,hb,e⟩
   ·rintro (hz | ⟨j,hj,hb,e⟩)
    ·exact .inl hz
    ·by_cases ej:j=k
     ·subst ej;exact absurd ((hargs _ _).1 hb) ha
     ·exact .inr ⟨j,by omega,hb,e⟩
 ·right;rw [in0 (by omega)];have e:k=(nth a.Ops i).Table.length:=by omega
  subst e;exact ⟨_,rfl,h1,h2⟩
theorem A6t {n:Nat} (h:ReadyA a n) {H:List Bool} (hH:H.length=n) :
  ∃K,L3 a H=some K/\K.length=n /\ ∀z,nth K z=true↔nth H z=true \/ ∃i k,i<a.Ops.length/\k<(nth a.Ops i).Table.length/\Akh a i k (nth H)/\z=Alo a i k:=by
 have hL:=Az;have h4:=h.good.2.2.1;have h8:=h.le;unfold L3;rw [Af (by simp only [List.length_nil];omega)];obtain ⟨K,e,h1,h2⟩:=Fn (body:=In a H) (λs => ∃i:Nat,s.1=(i:Int)/\i<=a.Ops.length/\s.2.length=n /\ ∀z,nth s.2 z=true↔nth H z=true \/ ∃j k,j<i/\k<(nth a.Ops j).Table.length/\Akh a j k (nth H)/\z=Alo a j k)
  (λs=>a.Ops.length-s.1.toNat) (λK=>K.length=n /\ ∀z,nth K z=true↔nth H z=true \/ ∃i k,i<a.Ops.length/\k<(nth a.Ops i).Table.length/\Akh a i k (nth H)/\z=Alo a i k) (λs hs=>by
  obtain ⟨x,K⟩:=s;obtain ⟨i,hi,hil,h1,h2⟩:=hs;simp only at hi hil h1 h2;subst hi;unfold In;dsimp only;by_cases hlt:i<a.Ops.length
  ·left;obtain ⟨K1,e1,h3,h5⟩:=Bcd h hH hlt h1;rw [ip0 (by omega),e1];simp only [obs0];rw [Af (by omega)];refine ⟨_,rfl,⟨i+1,rfl,hlt,h3,λz=> ?_⟩,by simp only;omega⟩;simp only;rw [h5,h2];constructor
   ·rintro ((hz | ⟨j,k,a1,a2,a3,a4⟩) | ⟨k,a2,a3,a4⟩)
    ·exact .inl hz
    ·exact .inr ⟨j,k,by omega,a2,a3,a4⟩
    ·exact .inr ⟨i,k,by omega,a2,a3,a4⟩
   ·rintro (hz | ⟨j,k,a1,a2,a3,a4⟩)
    ·exact .inl (.inl hz)
    ·by_cases ej:j=i
     ·subst ej;exact .inr ⟨k,a2,a3,a4⟩
     ·exact .inl (.inr ⟨j,k,by omega,a2,a3,a4⟩)
  ·right;rw [in0 (by omega)];have e:i=a.Ops.length:=by omega
   subst e;exact ⟨_,rfl,h1,h2⟩) (s:=((0:Int),Al Bool++H)) ⟨0,rfl,Nat.zero_le _,hH,λz=>⟨.inl,λhz=>hz.resolve_right (by rintro ⟨j,_,hj,_⟩;omega)⟩⟩
 rw [e];exact ⟨K,rfl,h1,h2⟩
theorem Bbk {n:Nat} (hn:n<=LIM) {xs:List Int} (hx:Bm xs n) (hl:xs.length<=LIM):Qw n xs=some (Mu n λz=>decide ((z:Int)∈xs)):=by
 unfold Qw;have hn':=hn;rw [Az] at hl hn';rw [Af (by rw [Az];omega)];have key:=Bp (body:=Ia xs) (λi=>((i:Int),Mu n λz=>decide ((z:Int)∈xs.take i))) xs.length (Mu n λz=>decide ((z:Int)∈xs)) (λi hi=>by
  unfold Ia;dsimp only;have hc:=hx _ (Ao hi);have hlen:=Is n λz=>decide ((z:Int)∈xs.take i)
  rw [ip0 (by omega),Af (by omega),tna0,Af (by rw [hlen];omega),Af (by omega),Abp (by omega)];congr 3;refine Gq λz _=> ?_
  rw [Dt hi];by_cases hz:z=(nth xs i).toNat
  ·rw [ip0 hz];refine (dtr0 ?_).symm;rw [List.mem_append,List.mem_singleton];right;omega
  ·rw [in0 hz,decide_eq_decide,List.mem_append,List.mem_singleton];exact ⟨.inl,λh=>h.resolve_right (by omega)⟩) (by
  unfold Ia;dsimp only;rw [in0 (by omega),List.take_length])
 have e0:(Mu n λz=>decide ((z:Int)∈xs.take 0))=List.replicate n false:=by rw [Ts];exact Gq λz _=>by simp
 simp only [e0] at key;rw [tna0];show (Aj _ (((0:Nat):Int),_)).bind _=_;rw [key];rfl
theorem A4s {n:Nat} (hn:n<=LIM) (S:Nat->Bool):Lx (Mu n S)=some (Av n S):=by
 unfold Lx;have hn':=hn;rw [Az] at hn';have hl:=Is n S;rw [Am2 n S (λi acc hi ha=>by
  unfold Ij;dsimp only;rw [ip0 (by omega),Af (by omega),tna0,J8 hi];by_cases hp:S i=true
  ·rw [ip0 hp,ip0 hp,Af (by rw [Az];simp;omega),Af (by omega)];rfl
  ·rw [in0 hp,in0 hp,Af (by omega)];rfl) (λacc=>by
  unfold Ij;dsimp only;rw [in0 (by omega)])]
 rfl
theorem A4a {n:Nat} (h:ReadyA a n) {xs:List Int} (hx:Bm xs n) (hl:xs.length<=LIM):K8 a xs=some (Av n (Agn a λz=>decide ((z:Int)∈xs))):=by
 have hL:=Az;have h8:=h.le;generalize hS:(λz:Nat=>decide ((z:Int)∈xs))=S;have hSn : ∀z,S z=true->z<n:=λz hz=>by subst hS;have:=hx _ (of_decide_eq_true hz);omega
 have hb:=Is n S;have hin : ∀z,nth (Mu n S) z=true↔S z=true:=λz=>by
  constructor
  ·intro hz;have hl:=A92 hz;rw [hb] at hl
   rwa [J8 hl] at hz
  ·intro hz;rw [J8 (hSn z hz)];exact hz
 unfold K8;rw [h.sz,Bbk (by omega) hx hl,hS];simp only [obs0];obtain ⟨H,e,h1,h2,h3,h4⟩:=Fn (body:=Hj a) (λs => ∃j:Nat,s.1=(j:Int)/\j<=n+1/\s.2.length=n/\(∀z,S z=true->nth s.2 z=true)/\(∀z,nth s.2 z=true->Agn a S z=true)/\(Vj a (nth s.2)\/j<=Am9 s.2))
  (λs=>(n+1)-s.1.toNat) (λH=>H.length=n/\(∀z,S z=true->nth H z=true)/\(∀z,nth H z=true->Agn a S z=true)/\Vj a (nth H)) (λs hs=>by
  obtain ⟨x,H⟩:=s;obtain ⟨j,hj,hjn,h1,h2,h3,h4⟩:=hs;simp only at hj hjn h1 h2 h3 h4;subst hj;unfold Hj;dsimp only;rw [h.sz];have hcl:=A9b H;by_cases hlt:j<=n
  ·left;obtain ⟨K,eK,k1,k2⟩:=A6t h h1;rw [ip0 (by omega),eK];simp only [obs0];rw [Af (by omega)];have hmore : ∀z,nth H z=true->nth K z=true:=λz hz=>(k2 z).2 (.inl hz)
   refine ⟨_,rfl,⟨j+1,rfl,by omega,k1,λz hz=>hmore z (h2 z hz),λz hz=> ?_,?_⟩,by simp only;omega⟩
   ·rcases (k2 z).1 hz with hz | ⟨i,k,a1,a2,a3,a4⟩
    ·exact h3 z hz
    ·rw [a4];exact Akj i a1 k a2 (Akk h3 a3)
   ·simp only;obtain ⟨m1,m2⟩:=A31 (h1.trans k1.symm) hmore;by_cases hc:Vj a (nth H)
    ·left;have:H=K:=by
      refine Qh (h1.trans k1.symm) λz hz=> ?_
      rw [Bool.eq_iff_iff,k2];constructor
      ·exact .inl
      ·rintro (hz | ⟨i,k,a1,a2,a3,a4⟩)
       ·exact hz
       ·rw [a4];exact hc i a1 k a2 a3
     rw [<-this];exact hc
    ·right;have hj:=h4.resolve_left hc;apply Classical.byContradiction;intro hno;have e:=m2 (by omega);refine hc λi a1 k a2 a3=> ?_
     rw [e];exact (k2 _).2 (.inr ⟨i,k,a1,a2,a3,rfl⟩)
  ·right;rw [in0 (by omega)];exact ⟨_,rfl,h1,h2,h3,h4.resolve_right (by omega)⟩) (s:=((0:Int),Mu n S)) ⟨0,rfl,by omega,hb,λz hz=>(hin z).2 hz,λz hz=>Ai2 z ((hin z).1 hz),.inr (Nat.zero_le _)⟩
 rw [e];simp only [obs0];have eH:H=Mu n (Agn a S):=by
  refine Qh (by rw [h1,Is]) λz hz=> ?_
  rw [h1] at hz;rw [J8 hz];cases hh:Agn a S z with
  | true=>exact Apf h2 h4 z hh
  | false=>
    cases h5:nth H z with
    | false=>rfl
    | true=>rw [h3 z h5] at hh;cases hh
 rw [eH,A4s (by omega)];rfl
theorem Bb1 {n:Nat} (h:ReadyA a n) {xs:List Int} (hl:xs.length<=LIM):Rf a xs=some (decide (Aby a n xs)):=by
 have hL:=Az;have h8:=h.le;unfold Rf;rw [h.sz,Af (by omega),A0j _ _ _ hl];simp only [obs0];by_cases hr:Aww xs 0 (n-1)
 ·obtain ⟨h3,h4⟩:=(Apw xs n).1 hr;rw [dtr0 hr,ip0 rfl,A4a h h4 hl];simp only [obs0];have hsl:=Ph n (Agn a λz=>decide ((z:Int)∈xs));rw [Ahq (by omega)];simp only [obs0];congr 1;rw [decide_eq_decide];exact ⟨λhc=>⟨h4,h3,hc⟩,λhc=>hc.2.2⟩
 ·rw [dfa0 hr,in0 (by simp),dfa0];rintro ⟨h4,h3,_⟩;exact hr ((Apw xs n).2 ⟨h3,h4⟩)
theorem A0u {n:Nat} (h:ReadyA a n) {xs:List Int}:Aby a n xs↔Bm xs n/\Z9 xs/\Vj a λz=>decide ((z:Int)∈xs):=by
 constructor
 ·rintro ⟨h1,h2,h3⟩;refine ⟨h1,h2,λi hi k hk ha=> ?_⟩;have hv:=(h.val hi hk).2;have h4:Agn a (λz=>decide ((z:Int)∈xs)) (Alo a i k)=true:=Akj i hi k hk (Akk (λz hz=>Ai2 z hz) ha);have h5:((Alo a i k:Nat):Int)∈Av n (Agn a λz=>decide ((z:Int)∈xs)):=Im.2 ⟨_,hv,h4,rfl⟩;rw [h3] at h5;exact dtr0 h5
 ·rintro ⟨h1,h2,h3⟩;exact ⟨h1,h2,by rw [A3j h3];exact Az4 h1 h2⟩
end
theorem A16 {α β:Type} {o:Option α} {k:α->Option β} {Q:α->Prop} {R:β->Prop} (h : ∃a,o=some a/\Q a) (h2 : ∀a,Q a -> ∃b,k a=some b/\R b) : ∃b,o.bind k=some b/\R b:=by obtain ⟨a,e,hq⟩:=h;rw [e];exact h2 a hq
theorem Bbj {β:Type} {c:Prop} [Decidable c] {x y:Option β} {R:β->Prop} (h1:c -> ∃b,x=some b/\R b) (h2:¬c -> ∃b,y=some b/\R b) : ∃b,(if c then x else y)=some b/\R b:=by
 split
 ·exact h1 ‹_›
 ·exact h2 ‹_›
def Jm (a:SAlgebra):Prop:=a.Ops.length<=10 /\ ∀f∈a.Ops,f.Table.length<=101
theorem Qz {a:SAlgebra} (h:Jm a):Du a:=⟨by have:=h.1;omega,λf hf=>by have:=h.2 f hf;omega⟩
theorem Azl (s:ByteArray) (hs:s.size<=100) : ∃f,Bg s=some f/\f.Table.length<=100:=by
 have hL:=Az;unfold Bg;obtain ⟨f,e,hf⟩:=Fn (body:=Gr s) (λt => ∃j:Nat,t.1=(j:Int)/\j<=s.size/\t.2.Table.length<=j) (λt=>s.size-t.1.toNat) (λf=>f.Table.length<=100) (λt ht=>by
  obtain ⟨x4,x3⟩:=t;obtain ⟨j,g1,g2,g3⟩:=ht;simp only at g1 g2 g3;subst g1;unfold Gr;dsimp only;by_cases hj:(j:Int)<(s.size:Int)
  ·left;rw [ip0 hj,Af (by omega),Af (by simp;omega),Af (by omega)];exact ⟨_,rfl,⟨j+1,rfl,by omega,by simp;omega⟩,by simp only;omega⟩
  ·right;rw [in0 hj];exact ⟨_,rfl,by omega⟩) (s:=((0:Int),({ Arity:=2,Table:=Al Int }:SOp))) ⟨0,rfl,Nat.zero_le _,by simp [Al]⟩
 rw [e];exact ⟨_,rfl,hf⟩
theorem Azf {n:Int} (hn:n=2\/n=3) : ∃f,Hf n=some f/\f.Table.length<=100:=by
 have hL:=Az;unfold Hf;obtain ⟨f,e,hf⟩:=Fn (body:=Gz n) (λt => ∃j:Nat,t.1=(j:Int)/\j<=27/\t.2.Table.length<=j) (λt=>27-t.1.toNat) (λf=>f.Table.length<=100) (λt ht=>by
  obtain ⟨x4,x3⟩:=t;obtain ⟨j,g1,g2,g3⟩:=ht;simp only at g1 g2 g3;subst g1;unfold Gz;dsimp only;have d1 : ∀m:Int,(j:Int).tdiv m=(j:Int)/m:=λm=>Int.tdiv_eq_ediv_of_nonneg (by omega)
  have d2 : ∀m:Int,(j:Int).tmod m=(j:Int)%m:=λm=>Int.tmod_eq_emod_of_nonneg (by omega)
  rw [d1,d1,d2];rcases hn with rfl | rfl
  ·have d3:((j:Int)/2).tmod 2=((j:Int)/2)%2:=Int.tmod_eq_emod_of_nonneg (by omega);rw [d3];by_cases hj:(j:Int)<2*2*2
   ·left;rw [Af (by omega),Af (by omega),ip0 hj];rw [Af (by omega),Af (by omega),Af (by omega),Af (by omega),Af (by omega),Af (by omega),Af (by omega),Af (by omega),Af (by omega),Af (by simp;omega),Af (by omega)];exact ⟨_,rfl,⟨j+1,rfl,by omega,by simp;omega⟩,by simp only;omega⟩
   ·right;rw [Af (by omega),Af (by omega),in0 hj];exact ⟨_,rfl,by omega⟩
  ·have d3:((j:Int)/3).tmod 3=((j:Int)/3)%3:=Int.tmod_eq_emod_of_nonneg (by omega);rw [d3];by_cases hj:(j:Int)<3*3*3
   ·left;rw [Af (by omega),Af (by omega),ip0 hj];rw [Af (by omega),Af (by omega),Af (by omega),Af (by omega),Af (by omega),Af (by omega),Af (by omega),Af (by omega),Af (by omega),Af (by simp;omega),Af (by omega)];exact ⟨_,rfl,⟨j+1,rfl,by omega,by simp;omega⟩,by simp only;omega⟩
   ·right;rw [Af (by omega),Af (by omega),in0 hj];exact ⟨_,rfl,by omega⟩) (s:=((0:Int),({ Arity:=3,Table:=Al Int }:SOp))) ⟨0,rfl,Nat.zero_le _,by simp [Al]⟩
 rw [e];exact ⟨_,rfl,hf⟩
theorem Avs (k:Int) : ∃a,K7 k=some a/\Jm a:=by
 have fin0 : ∀ {z:Int},Jm { Size:=z,Ops:=Al SOp }:=⟨by simp [Al],λf hf=>by simp [Al] at hf⟩
 have fin1 : ∀ {z:Int} {f:SOp},f.Table.length<=100->Jm { Size:=z,Ops:=[f] }:=λh=>⟨by simp,λf hf=>by simp at hf;subst hf;omega⟩
 have fin2 : ∀ {z:Int} {f g:SOp},f.Table.length<=100->g.Table.length<=100->Jm { Size:=z,Ops:=[f,g] }:=λh1 h2=>⟨by simp,λf hf=>by simp only [List.mem_cons,List.not_mem_nil,or_false] at hf;rcases hf with rfl | rfl<;>omega⟩
 have fin3 : ∀ {z:Int} {f g e:SOp},f.Table.length<=100->g.Table.length<=100->e.Table.length<=100->Jm { Size:=z,Ops:=[f,g,e] }:=λh1 h2 h3=>⟨by simp,λf hf=>by simp only [List.mem_cons,List.not_mem_nil,or_false] at hf;rcases hf with rfl | rfl | rfl<;>omega⟩
 unfold K7
 repeat' (first | refine Bbj (λ_=> ?_) (λ_=> ?_) | refine A16 (Azl _ (by decide)) λf hf=> ?_ | refine A16 (Azf (by simp)) λf hf=> ?_)
 all_goals
  first
   | exact ⟨_,rfl,fin0⟩
   | exact ⟨_,rfl,fin1 (by first | assumption | decide)⟩
   | exact ⟨_,rfl,fin2 (by first | assumption | decide) (by first | assumption | decide)⟩
   | exact ⟨_,rfl,fin3 (by first | assumption | decide) (by first | assumption | decide) (by first | assumption | decide)⟩
theorem N5 {c:Sl1Cur} {k:Nat} (h:Cur k c) (hk:k<=600000000) : ∃a d,Cm c=some (a,d)/\Cur (k+1000) d/\Jm a:=by
 have hL:=Az;unfold Cm;obtain ⟨b,d,e,hd⟩:=Ayt h (by omega) 4;rw [e];simp only [obs0];by_cases hb:b=true
 ·rw [ip0 hb];obtain ⟨n,d2,e2,hd2,hn⟩:=Ml hd (by omega) [2,2,3,3,4] (by simp);rw [e2];simp only [obs0];obtain ⟨m,d3,e3,hd3,hm⟩:=Ml hd2 (by omega) [1,1,2] (by simp);rw [e3];simp only [obs0];obtain ⟨N,rfl,hN⟩ : ∃N:Nat,n=(N:Int)/\2<=N/\N<=4:=⟨n.toNat,by simp at hn;omega,by simp at hn;omega⟩
  obtain ⟨M,rfl,hM⟩ : ∃M:Nat,m=(M:Int)/\1<=M/\M<=2:=⟨m.toNat,by simp at hm;omega,by simp at hm;omega⟩
  obtain ⟨⟨a,d4⟩,e4,⟨ha1,ha2,ha3⟩,hd4⟩:=Fn (body:=Eb (N:Int)) (λs => ∃j:Nat,s.1=(j:Int)/\j<=M/\s.2.1.Size=(N:Int)/\s.2.1.Ops.length=M-j/\(∀f∈s.2.1.Ops,1<=f.Table.length/\f.Table.length<=64)/\Cur (k+6+200*(M-j)) s.2.2) (λs=>s.1.toNat)
   (λt=>(t.1.Size=(N:Int)/\t.1.Ops.length=M /\ ∀f∈t.1.Ops,1<=f.Table.length/\f.Table.length<=64)/\Cur (k+500) t.2) (λs hs=>by
   obtain ⟨x6,x5,x1⟩:=s;obtain ⟨j,g1,g2,g3,g4,g5,g6⟩:=hs;simp only at g1 g2 g3 g4 g5 g6;subst g1;unfold Eb;dsimp only;by_cases hj:(j:Int)>0
   ·left;rw [ip0 hj];obtain ⟨r,d5,e5,hd5,hr⟩:=Ml g6 (by omega) [0,1,2,2,3] (by simp);rw [e5];simp only [obs0];obtain ⟨R,rfl,hR⟩ : ∃R:Nat,r=(R:Int)/\R<=3:=⟨r.toNat,by simp at hr;omega,by simp at hr;omega⟩
    have hop : ∃f:SOp,((if (N:Int)=4 then if (R:Int)=3 then some ({ Arity:=2,Table:=Al Int }:SOp) else some { Arity:=(R:Int),Table:=Al Int } else some { Arity:=(R:Int),Table:=Al Int }:Option SOp))=some f/\f.Table=[] /\ ∃Q:Nat,f.Arity=(Q:Int)/\1<=N^Q/\N^Q<=64/\Q<=3:=by
     by_cases h4:(N:Int)=4
     ·rw [ip0 h4];have h4:N=4:=by omega
      subst h4;by_cases h3:(R:Int)=3
      ·rw [ip0 h3];exact ⟨_,rfl,rfl,2,rfl,by decide⟩
      ·rw [in0 h3];refine ⟨_,rfl,rfl,R,rfl,?_⟩;have:R=0\/R=1\/R=2:=by omega
       rcases this with rfl | rfl | rfl<;>decide
     ·rw [in0 h4];refine ⟨_,rfl,rfl,R,rfl,?_⟩;have h5:N=2\/N=3:=by omega
      have:R=0\/R=1\/R=2\/R=3:=by omega
      rcases h5 with rfl | rfl<;>rcases this with rfl | rfl | rfl | rfl<;>decide
    obtain ⟨f,ef,ht,Q,hQ,q1,q2,q3⟩:=hop;rw [ef];simp only [obs0];rw [hQ,Avg (by omega) q3];simp only [obs0];obtain ⟨⟨f2,d6⟩,e6,hf2,hd6⟩:=Fn (body:=D6 (N:Int) (j:Int) x5) (λs => ∃i:Nat,s.1=(i:Int)/\i<=N^Q/\s.2.1.Table.length=N^Q-i/\Cur (k+6+200*(M-j)+2+2*(N^Q-i)) s.2.2) (λs=>s.1.toNat) (λt=>t.1.Table.length=N^Q/\Cur (k+6+200*(M-j)+2+2*N^Q) t.2) (λs hs=>by
     obtain ⟨x8,x7,x9⟩:=s;obtain ⟨i,k1,k2,k3,k4⟩:=hs;simp only at k1 k2 k3 k4;subst k1;unfold D6;dsimp only;by_cases hi:(i:Int)>0
     ·left;rw [ip0 hi];obtain ⟨v,d7,e7,hd7,_⟩:=Fc k4 (by omega) (N:Int);rw [e7];simp only [obs0];rw [Af (by simp;omega),Af (by omega)];exact ⟨_,rfl,⟨i-1,by simp only;omega,by omega,by simp;omega,hd7.mono (by omega)⟩,by simp only;omega⟩
     ·right;rw [in0 hi];exact ⟨_,rfl,by simp only;omega,k4.mono (by omega)⟩) (s:=(((N^Q:Nat):Int),f,d5)) ⟨N^Q,rfl,Nat.le_refl _,by simp [ht],hd5.mono (by omega)⟩
    rw [e6];simp only [obs0];rw [Af (by simp;omega),Af (by omega)];simp only at hf2 hd6;refine ⟨_,rfl,⟨j-1,by simp only;omega,by omega,g3,by simp;omega,λf hf=> ?_,hd6.mono (by omega)⟩,by simp only;omega⟩;rcases List.mem_append.1 hf with h' | h'
    ·exact g5 f h'
    ·rw [List.mem_singleton.1 h'];omega
   ·right;rw [in0 hj];exact ⟨_,rfl,⟨g3,by simp only;omega,g5⟩,g6.mono (by omega)⟩) (s:=((M:Int),({ Size:=(N:Int),Ops:=Al SOp }:SAlgebra),d3)) ⟨M,rfl,Nat.le_refl _,rfl,by simp [Al],λf hf=>by simp [Al] at hf,hd3.mono (by omega)⟩
  rw [e4];simp only [obs0];simp only at ha1 ha2 ha3 hd4;have h0:0<a.Ops.length:=by omega
  have hf0:=ha3 _ (Ao h0);have ht:Jm a:=⟨by omega,λf hf=>by have:=ha3 f hf;omega⟩
  have hset : ∀ {z:Int} {f:SOp},f.Table.length<=101->Jm { Size:=z,Ops:=a.Ops.set (Int.toNat 0) f }:=λhf=>⟨by simp;omega,λg hg=>by
   rcases List.mem_or_eq_of_mem_set hg with h' | h'
   ·have:=ha3 g h';omega
   ·rw [h'];exact hf⟩
  obtain ⟨w,d5,e5,hd5,w0,_⟩:=Fc hd4 (by omega) 16;rw [e5];simp only [obs0];by_cases c0:w=0
  ·rw [ip0 c0,Af (by omega)];obtain ⟨r,d6,e6,hd6,_⟩:=Ml hd5 (by omega) [0,9,(N:Int)+1] (by simp);rw [e6];exact ⟨_,_,rfl,hd6.mono (by omega),ht⟩
  rw [in0 c0];by_cases c1:w=1
  ·rw [ip0 c1,Af (by omega),Af (by simp only [Int.toNat_zero,List.length_singleton];omega)];exact ⟨_,_,rfl,hd5.mono (by omega),hset (by simp only [Int.toNat_zero,List.length_append,List.length_singleton];omega)⟩
  rw [in0 c1];by_cases c2:w=2
  ·rw [ip0 c2,Af (by omega)];obtain ⟨r,d6,e6,hd6,r0,r1⟩:=Fc hd5 (by omega) ((nth a.Ops (Int.toNat 0)).Table.length:Int);rw [e6];simp only [obs0];obtain ⟨s,d7,e7,hd7,_⟩:=Ml hd6 (by omega) [-1,(N:Int)] (by simp);rw [e7];simp only [obs0];simp only [Int.toNat_zero] at r1 ⊢;rw [Af (by omega)];exact ⟨_,_,rfl,hd7.mono (by omega),hset (by simp only [List.length_set];omega)⟩
  rw [in0 c2];by_cases c3:w=3
  ·rw [ip0 c3];obtain ⟨r,d6,e6,hd6,_⟩:=Ml hd5 (by omega) [-1,4] (by simp);rw [e6];simp only [obs0];rw [Af (by omega)];exact ⟨_,_,rfl,hd6.mono (by omega),hset (by simp only [Int.toNat_zero];omega)⟩
  rw [in0 c3];by_cases c4:w=4
  ·rw [ip0 c4];obtain ⟨⟨a2,d6⟩,e6,ht2,hd6⟩:=Fn (body:=D9 (N:Int)) (λs=>s.1.Ops.length<=5/\(∀f∈s.1.Ops,f.Table.length<=64)/\Cur (k+502+2*s.1.Ops.length) s.2) (λs=>5-s.1.Ops.length) (λt=>Jm t.1/\Cur (k+600) t.2) (λs hs=>by
    obtain ⟨x5,x1⟩:=s;obtain ⟨g1,g2,g3⟩:=hs;simp only at g1 g2 g3;unfold D9;dsimp only;obtain ⟨r,d7,e7,hd7,r0,r1⟩:=Fc g3 (by omega) 2;rw [e7];simp only [obs0];rw [Af (by omega)];by_cases hl:(x5.Ops.length:Int)<4+r
    ·left;rw [ip0 hl,Af (by omega),Af (by simp;omega)];refine ⟨_,rfl,⟨by simp;omega,λf hf=> ?_,hd7.mono (by simp;omega)⟩,by simp;omega⟩;rcases List.mem_append.1 hf with h' | h'
     ·exact g2 f h'
     ·rw [List.mem_singleton.1 h'];simp;omega
    ·right;rw [in0 hl];exact ⟨_,rfl,⟨by simp only;omega,λf hf=>by have:=g2 f hf;omega⟩,hd7.mono (by omega)⟩) (s:=(a,d5)) ⟨by simp only;omega,λf hf=>(ha3 f hf).2,hd5.mono (by omega)⟩
   rw [e6];exact ⟨_,_,rfl,hd6.mono (by omega),ht2⟩
  rw [in0 c4];exact ⟨_,_,rfl,hd5.mono (by omega),ht⟩
 ·rw [in0 hb];obtain ⟨r,d2,e2,hd2,_⟩:=Fc hd (by omega) 17;rw [e2];simp only [obs0];obtain ⟨a,e3,ht⟩:=Avs r;rw [e3];exact ⟨_,_,rfl,hd2.mono (by omega),ht⟩
theorem A14 {code:List Int} (hc : ∀x∈code,0<=x/\x<=255) (hl:code.length<=65536):Cur 0 ({ code:=code,at_:=0,seed:=0 }:Sl1Cur):=⟨hc,hl,Int.le_refl _,Int.le_refl _⟩
theorem A1k {xs:List Int} (h:xs.length<=LIM):Iz xs=some xs:=by unfold Iz;rw [Af (by show 0+xs.length<=_;omega)];rfl
theorem Aze {xs:List Int} (h:xs.length<=LIM):Lk xs xs=some true:=by
 have hL:=Az;unfold Lk;rw [in0 (by simp)];have:=Bp (body:=F1 xs xs) (λi=>(i:Int)) xs.length (.inr ()) (λi hi=>by
  unfold F1;rw [ip0 (by omega)];repeat rw [Af (by omega)]
  rw [in0 (by simp)];repeat rw [Af (by omega)]
  rfl) (by
  unfold F1;rw [in0 (by omega)])
 have h0:Aj (F1 xs xs) 0=some (.inr ()):=this;rw [h0];rfl
def Au9 (a b:SAlgebra) (f:List Int) (n m i k:Nat):Prop:=i<a.Ops.length/\k<(nth a.Ops i).Table.length/\Ec a b f n m i k /\
 (∀j,j<i -> ∀l,l<(nth a.Ops j).Table.length->¬Ec a b f n m j l) /\ ∀l,l<k->¬Ec a b f n m i l
section
variable {a b:SAlgebra} {f:List Int} {n m:Nat}
theorem Au9.faulty {i k:Nat} (h:Au9 a b f n m i k):faulty a b f n m:=⟨i,h.1,k,h.2.1,h.2.2.1⟩
theorem A08 {τ1 τ2 τ:Type} (body1:Int->Int->Option (Int ⊕ (τ1 ⊕ Unit))) (body2:Int->Option (Int ⊕ (τ2 ⊕ Unit))) (res1:Nat->Nat->τ1) (res2:Nat->τ1->τ2)
  (h1 : ∀i,i<a.Ops.length -> ∀k,k<(nth a.Ops i).Table.length->body1 (i:Int) (k:Int)=if Ec a b f n m i k then some (.inr (.inl (res1 i k))) else some (.inl ((k+1:Nat):Int)))
  (h1e : ∀i,i<a.Ops.length->body1 (i:Int) ((nth a.Ops i).Table.length:Int)=some (.inr (.inr ())))
  (h2 : ∀i,i<a.Ops.length->body2 (i:Int)=(Aj (body1 (i:Int)) 0).bind λt=>match t with | .inl q=>some (.inr (.inl (res2 i q))) | .inr _=>some (.inl ((i+1:Nat):Int)))
  (h2e:body2 (a.Ops.length:Int)=some (.inr (.inr ()))) (out:τ2 ⊕ Unit->Option τ) :
  (∃i k,Au9 a b f n m i k/\(Aj body2 0).bind out=out (.inl (res2 i (res1 i k))))\/(¬faulty a b f n m/\(Aj body2 0).bind out=out (.inr ())):=by
 have inner : ∀i,i<a.Ops.length->(∃k,k<(nth a.Ops i).Table.length/\Ec a b f n m i k/\(∀l,l<k->¬Ec a b f n m i l)/\Aj (body1 (i:Int)) 0=some (.inl (res1 i k))) \/
   ((∀k,k<(nth a.Ops i).Table.length->¬Ec a b f n m i k)/\Aj (body1 (i:Int)) 0=some (.inr ())):=by
  intro i hi;exact Xi (body:=body1 (i:Int)) (λk=>(k:Int)) (nth a.Ops i).Table.length (Ec a b f n m i) (λk=> .inl (res1 i k)) (.inr ()) (λk hk hh=>by rw [h1 i hi k hk,in0 hh]) (λk hk hh=>by rw [h1 i hi k hk,ip0 hh]) (h1e i hi)
 have inner2 : ∀i,∃q:Nat,i<a.Ops.length->(∃k,k<(nth a.Ops i).Table.length/\Ec a b f n m i k)->q<(nth a.Ops i).Table.length/\Ec a b f n m i q/\(∀l,l<q->¬Ec a b f n m i l)/\Aj (body1 (i:Int)) 0=some (.inl (res1 i q)):=by
  intro i;by_cases hi:i<a.Ops.length
  ·rcases inner i hi with ⟨k,h3⟩ | ⟨hno,_⟩
   ·exact ⟨k,λ_ _=>h3⟩
   ·exact ⟨0,λ_ ⟨k,hk,hx⟩=>absurd hx (hno k hk)⟩
  ·exact ⟨0,λhh=>absurd hh hi⟩
 obtain ⟨q,hq⟩ : ∃q:Nat->Nat,∀i,i<a.Ops.length->(∃k,k<(nth a.Ops i).Table.length/\Ec a b f n m i k)->q i<(nth a.Ops i).Table.length/\Ec a b f n m i (q i)/\(∀l,l<q i->¬Ec a b f n m i l)/\Aj (body1 (i:Int)) 0=some (.inl (res1 i (q i))):= ⟨λi=>Classical.choose (inner2 i),λi=>Classical.choose_spec (inner2 i)⟩;rcases Xi (body:=body2) (λi=>(i:Int)) a.Ops.length (λi => ∃k,k<(nth a.Ops i).Table.length/\Ec a b f n m i k) (λi=> .inl (res2 i (res1 i (q i)))) (.inr ()) (λi hi hh=>by
   rw [h2 i hi];rcases inner i hi with ⟨k,hk,hx,_⟩ | ⟨_,e⟩
   ·exact absurd ⟨k,hk,hx⟩ hh
   ·rw [e];rfl) (λi hi hh=>by
   rw [h2 i hi,(hq i hi hh).2.2.2];rfl) h2e with ⟨i,hi,hh,hmin,e⟩ | ⟨hno,e⟩
 ·left;obtain ⟨q1,q2,q3,_⟩:=hq i hi hh;refine ⟨i,q i,⟨hi,q1,q2,λj hj l hl hx=>hmin j hj ⟨l,hl,hx⟩,q3⟩,?_⟩;rw [show ((0:Int))=(((0:Nat)):Int) from rfl,e];rfl
 ·right;refine ⟨λ⟨i,hi,hh⟩=>hno i hi hh,?_⟩;rw [show ((0:Int))=(((0:Nat)):Int) from rfl,e];rfl
theorem Azv (h:Homs a b f n m):(∃i k,Au9 a b f n m i k/\Ib a b f=some ((i:Int),(k:Int)))\/(¬faulty a b f n m/\Ib a b f=some (-1,0)):=by
 obtain ⟨hn,hn8,_,hm⟩:=h.pos;have hop4:=h.ga.2.2.1;unfold Ib;refine A08 (Fy a b f) (Fx a b f) (λ_ k=>(k:Int)) (λi q=>(q,(i:Int))) ?_ ?_ ?_ ?_ _
 ·intro i hi k hk;obtain ⟨r,hr,e1,e2,l1,l2,t1,l3⟩:=h.op hi;have hops:=h.ops;have hv:=t1 _ (Ao hk);have hlen:=h.len;obtain ⟨c,hc1,hc2⟩:=h.low (k:=k) hr;unfold Fy;rw [tna0,ip0 (by omega),Af (by omega),tna0,Af (by omega),Af (by omega),e1,Aud hn hm h.sa h.sb h.len h.fin hr (by omega)];simp only [obs0];rw [Af (by rw [hc1,l2];omega)];have er:(nth a.Ops i).Arity.toNat=r:=by omega
  by_cases hF:Ec a b f n m i k
  ·have hF':=hF;unfold Ec at hF';rw [er] at hF';rw [ip0 hF',ip0 hF]
  ·have hF':=hF;unfold Ec at hF';rw [er] at hF';rw [in0 hF',in0 hF,Af (by omega)];rfl
 ·intro i hi;unfold Fy;rw [tna0,in0 (by omega)]
 ·intro i hi;unfold Fx;rw [ip0 (by omega),Af (by omega)];congr 1;funext t;cases t with
  | inl q=>rfl
  | inr u=>dsimp only;rw [Af (by omega)];rfl
 ·unfold Fx;rw [in0 (by omega)]
end
def I3 (a b:SAlgebra):Prop:=B8 a/\B8 b/\C4 a=C4 b
def A77 (a b:SAlgebra) (f:List Int):Prop:=(f.length:Int)=a.Size/\Bm f b.Size
def Oo (a b:SAlgebra) (f:List Int):Prop:=I3 a b/\A77 a b f/\¬faulty a b f a.Size.toNat b.Size.toNat
section
variable {a b:SAlgebra} {f:List Int}
theorem Aha (h:I3 a b) (h2:A77 a b f):Homs a b f a.Size.toNat b.Size.toNat:=by have h3:=h.1.1;have h4:=h.2.1.1;exact ⟨h.1,h.2.1,h.2.2,by omega,by omega,by have:=h2.1;omega,by rw [show ((b.Size.toNat:Nat):Int)=b.Size by omega];exact h2.2⟩
theorem A84 (hl:f.length<=LIM):Nw a b f=some (decide (A77 a b f)):=by
 unfold Nw;by_cases h1:(f.length:Int)=a.Size
 ·rw [ip0 h1,Ani _ _ hl];simp only [obs0];congr 1;rw [decide_eq_decide];exact ⟨λh=>⟨h1,h⟩,λh=>h.2⟩
 ·rw [in0 h1,dfa0 (show ¬A77 a b f from λh=>h1 h.1)]
theorem A94 (h:I3 a b) (hl:f.length<=LIM):Og a b f=some (decide (Oo a b f)):=by
 unfold Og;rw [A84 hl];simp only [obs0];by_cases hm:A77 a b f
 ·rw [dtr0 hm,ip0 rfl];rcases Azv (Aha h hm) with ⟨i,k,hf,e⟩ | ⟨hf,e⟩
  ·rw [e,dfa0 (show ¬Oo a b f from λhh=>hh.2.2 hf.faulty)];simp only [obs0];rw [dfa0 (by omega)]
  ·rw [e,dtr0 (show Oo a b f from ⟨h,hm,hf⟩)];rfl
 ·rw [dfa0 hm,in0 (by simp),dfa0 (show ¬Oo a b f from λhh=>hm hh.2.1)]
end
def Dw (f g:List Int):List Int:=f.map λx=>nth g x.toNat
theorem A34 {f g:List Int} (hl:f.length<=LIM) (hx:Bm f g.length):K9 f g=some (Dw f g):=by
 have hL:=Az;unfold K9;rw [Af (by omega),tna0];have key:=Bp (body:=Ek f g) (λi=>((i:Int),(Dw f g).take i++List.replicate (f.length-i) 0)) f.length (Dw f g) (λi hi=>by
  unfold Ek;dsimp only;have hv:=hx _ (Ao hi);have hcl:(Dw f g).length=f.length:=by simp [Dw]
  rw [ip0 (by omega),Af (by omega),tna0,Af (by omega),Af (by simp;omega),Af (by omega),Dt (by omega),show f.length-i=(f.length-(i+1))+1 by omega,List.replicate_succ];have e:nth (Dw f g) i=nth g (nth f i).toNat:=Gc _ hi;rw [e];congr 3;have h1:((Dw f g).take i).length=i:=by simp;omega
  rw [List.set_append,in0 (by omega),h1,Nat.sub_self,List.set_cons_zero,List.append_assoc];rfl) (by
  unfold Ek;dsimp only;rw [in0 (by omega),Nat.sub_self,List.take_of_length_le (by simp [Dw])];simp)
 have key':Aj (Ek f g) (0,List.replicate f.length 0)=some (Dw f g):=by simpa using key
 rw [key'];rfl
theorem Ayf {f xs:List Int} (hl:xs.length<=1048576) (hx:Bm xs f.length):Eo f xs=some (Dw xs f):=by
 have hL:=Az;unfold Eo;have key:=Bp (body:=Cd f xs) (λi=>((i:Int),Dw (xs.take i) f)) xs.length (Dw xs f) (λi hi=>by
  unfold Cd;dsimp only;have hv:=hx _ (Ao hi);rw [ip0 (by omega),Af (by omega),tna0,Af (by omega),Af (by simp [Dw];omega),Af (by omega),Dt hi];simp [Dw]) (by
  unfold Cd;dsimp only;rw [in0 (by omega),List.take_length])
 have key':Aj (Cd f xs) (0,Al Int)=_:=key;rw [key'];rfl
theorem Azi {n m l:Nat} (hn:0<n) {f g:List Int} (hf:f.length=n) (hfx:Bm f m) (hm:0<m) : ∀r k,∃c:Nat,It n m f r k=(c:Int)/\It n l (Dw f g) r k=It m l g r c:=by
 intro r
 induction r with
 | zero=>intro k;exact ⟨0,rfl,rfl⟩
 | succ r ih=>
   intro k;obtain ⟨c,h1,h2⟩:=ih (k/n);have hk:=Nat.mod_lt k hn;have hv:=hfx _ (Ao (show k%n<f.length by omega));obtain ⟨d,hd⟩:=Int.eq_ofNat_of_zero_le hv.1;refine ⟨c*m+d,?_,?_⟩
   ·simp only [It,h1,hd];push_cast;rfl
   ·have hdm:d<m:=by omega
    have e1:(c*m+d)/m=c:=by rw [Nat.mul_comm,Nat.mul_add_div hm,Nat.div_eq_of_lt hdm];omega
    have e2:(c*m+d)%m=d:=by rw [Nat.mul_comm,Nat.mul_add_mod,Nat.mod_eq_of_lt hdm]
    simp only [It,h2,e1,e2];have e3:nth (Dw f g) (k%n)=nth g (nth f (k%n)).toNat:=Gc _ (by omega);rw [e3,hd,tna0]
section
variable {a b c:SAlgebra} {f g:List Int}
theorem A50 (h1:Oo a b f) (h2:Oo b c g):Oo a c (Dw f g):=by
 have hg:g.length=b.Size.toNat:=by have:=h2.2.1.1;have:=h2.1.1.1;omega
 have H1:=Aha h1.1 h1.2.1;have H2:=Aha h2.1 h2.2.1;obtain ⟨hn,hn8,hm,hm8⟩:=H1.pos;refine ⟨⟨h1.1.1,h2.1.2.1,h1.1.2.2.trans h2.1.2.2⟩,⟨by simp only [Dw,List.length_map];exact h1.2.1.1,?_⟩,?_⟩
 ·intro y hy;obtain ⟨x,hx,rfl⟩:=List.mem_map.1 hy;have h3:=h1.2.1.2 x hx;exact h2.2.1.2 _ (Ao (by omega))
 ·rintro ⟨i,hi,k,hk,hF⟩;have hib:i<b.Ops.length:=by rw [<-H1.ops];exact hi
  obtain ⟨r,hr,e1,e2,l1,l2,t1,l3⟩:=H1.op hi;obtain ⟨p,hp1,hp2⟩:=H1.low (r:=r) (k:=k) hr;have er:(nth a.Ops i).Arity.toNat=r:=by omega
  have er2:(nth b.Ops i).Arity.toNat=r:=by omega
  have n1:¬Ec a b f a.Size.toNat b.Size.toNat i k:=λhx=>h1.2.2 ⟨i,hi,k,hk,hx⟩
  have n2:¬Ec b c g b.Size.toNat c.Size.toNat i p:=λhx=>h2.2.2 ⟨i,hib,p,by omega,hx⟩
  unfold Ec at hF n1 n2;rw [er] at hF n1;rw [er2] at n2;have n1:=Classical.not_not.1 n1;have n2:=Classical.not_not.1 n2;rw [hp1,tna0] at n1;obtain ⟨q,hq1,hq2⟩:=Azi hn H1.len H1.fin hm r k (g:=g) (l:=c.Size.toNat);rw [hp1] at hq1;have hq1:=Int.ofNat.inj hq1;subst hq1;refine hF ?_;have hv:=t1 _ (Ao hk);have hfl:=H1.len;have e3:nth (Dw f g) (nth (nth a.Ops i).Table k).toNat=nth g (nth f (nth (nth a.Ops i).Table k).toNat).toNat:=Gc _ (by omega);rw [e3,n1,n2,hq2]
end
section
variable {a b:SAlgebra} {f:List Int}
theorem A4z {n:Nat} {j:List Int} (h:Perm f n) (hjf : ∀x,x<n->nth j (nth f x).toNat=(x:Int)) : ∀y,y<n -> ∃x,x<n/\nth j y=(x:Int)/\nth f x=(y:Int):=by intro y hy;obtain ⟨x,hx,e⟩:=h.onto hy;refine ⟨x,hx,?_,e⟩;have:=hjf x hx;rw [e,tna0] at this;exact this
theorem A7a {n:Nat} {j:List Int} (h:Perm f n) (hj:j.length=n) (hjf : ∀x,x<n->nth j (nth f x).toNat=(x:Int)):Bm j n:=by
 intro v hv;obtain ⟨i,hi,e⟩:=List.getElem_of_mem hv;obtain ⟨x,hx,e2,_⟩:=A4z h hjf i (by omega);have e3:v=nth j i:=by rw [Cz hi,e]
 omega
theorem A86 {j:List Int} (h:Oo a b f) (hS:a.Size=b.Size) (hP:Perm f a.Size.toNat) (hj:j.length=a.Size.toNat) (hjf : ∀x,x<a.Size.toNat->nth j (nth f x).toNat=(x:Int)):Oo b a j:=by
 have H:=Aha h.1 h.2.1;obtain ⟨hn,hn8,_,_⟩:=H.pos;have hSz:=H.sa;have hin:=A7a hP hj hjf;refine ⟨⟨h.1.2.1,h.1.1,h.1.2.2.symm⟩,⟨by omega,by rw [<-hSz] at hin;exact hin⟩,?_⟩;rintro ⟨i,hi,k,hk,hF⟩;have hia:i<a.Ops.length:=by rw [H.ops];exact hi
 obtain ⟨r,hr,e1,e2,l1,l2,t1,l3⟩:=H.op hia;have er:(nth a.Ops i).Arity.toNat=r:=by omega
 have er2:(nth b.Ops i).Arity.toNat=r:=by omega
 have hbn:b.Size.toNat=a.Size.toNat:=by rw [hS]
 rw [hbn] at hF l2;obtain ⟨k',hk',ek⟩:=Ay1 hP hn r k (by omega);have n1:¬Ec a b f a.Size.toNat b.Size.toNat i k':=λhx=>h.2.2 ⟨i,hia,k',by omega,hx⟩
 rw [hbn] at n1;unfold Ec at hF n1;rw [er] at n1;rw [er2] at hF;have n1:=Classical.not_not.1 n1;rw [ek,tna0] at n1;refine hF ?_;rw [<-n1];have hv:=t1 _ (Ao (show k'<(nth a.Ops i).Table.length by omega));have h3:=hjf (nth (nth a.Ops i).Table k').toNat (by omega);rw [h3];have e3:It a.Size.toNat a.Size.toNat j r k=(k':Int):=by
  have key : ∀r k',k'<a.Size.toNat^r -> ∀c:Nat,It a.Size.toNat a.Size.toNat f r k'=(c:Int)->It a.Size.toNat a.Size.toNat j r c=(k':Int):=by
   intro r
   induction r with
   | zero=>intro k' hk' c _;simp at hk';subst hk';rfl
   | succ r ih=>
     intro k' hk' c hc;obtain ⟨d,hd1,hd2⟩:=Apc hP hn hn8 (r:=0) (by omega) 0;have hq:=Nat.mod_lt k' hn;have hfv:=hP.fin _ (Ao (show k'%a.Size.toNat<f.length by rw [hP.len];exact hq));obtain ⟨y,hy⟩:=Int.eq_ofNat_of_zero_le hfv.1;have hdiv:k'/a.Size.toNat<a.Size.toNat^r:=Nat.div_lt_of_lt_mul (by rw [Nat.mul_comm,<-Nat.pow_succ];exact hk');obtain ⟨e0,he0⟩ : ∃e0:Nat,It a.Size.toNat a.Size.toNat f r (k'/a.Size.toNat)=(e0:Int):=by obtain ⟨z,hz,_⟩:=Azi hn hP.len hP.fin hn r (k'/a.Size.toNat) (g:=f) (l:=a.Size.toNat);exact ⟨z,hz⟩
     have ih2:=ih _ hdiv e0 he0;simp only [It,he0,hy] at hc;have hc2:c=e0*a.Size.toNat+y:=by
      have:((e0*a.Size.toNat+y:Nat):Int)=(c:Int):=by rw [<-hc];push_cast;rfl
      omega
     have hyn:y<a.Size.toNat:=by omega
     have q1:c/a.Size.toNat=e0:=by rw [hc2,Nat.mul_comm,Nat.mul_add_div hn,Nat.div_eq_of_lt hyn];omega
     have q2:c%a.Size.toNat=y:=by rw [hc2,Nat.mul_comm,Nat.mul_add_mod,Nat.mod_eq_of_lt hyn]
     simp only [It,q1,q2,ih2];have h4:=hjf (k'%a.Size.toNat) hq;rw [hy] at h4;simp only [tna0] at h4;have h5:nth j y=((k'%a.Size.toNat:Nat):Int):=h4;rw [h5];rw [<-Int.natCast_mul,<-Int.natCast_add,Nat.mul_comm,Nat.div_add_mod]
  exact key r k' (by omega) k ek
 rw [e3,tna0];omega
end
def okF (n m:Nat) (f:List Int):Prop:=f.length=n /\ ∀x∈f, -1<=x/\x<m
def Cf (f:List Int):Nat:=f.countP λx=>decide (x<0)
theorem okF.set {n m:Nat} {f:List Int} (h:okF n m f) {i:Nat} {y:Int} (hy:0<=y/\y<m):okF n m (f.set i y):=by
 refine ⟨by rw [List.length_set];exact h.1,λx hx=> ?_⟩;rcases List.mem_or_eq_of_mem_set hx with h1 | h1
 ·exact h.2 x h1
 ·subst h1;omega
theorem Xa {f:List Int} {i:Nat} (hi:i<f.length) (hf:nth f i<0) {y:Int} (hy:0<=y):Cf (f.set i y)<Cf f:=by unfold Cf;rw [List.countP_set hi];have e:f[i]=nth f i:=(Cz hi).symm;have hp:0<f.countP (λx=>decide (x<0)):=List.countP_pos_iff.2 ⟨nth f i,Ao hi,dtr0 hf⟩;rw [e,ip0 (dtr0 hf),in0 (by simp;omega)];omega
section
variable {a b:SAlgebra} {n m:Nat}
structure Pair (a b:SAlgebra) (n m:Nat):Prop where
 al:I3 a b
 sa:a.Size=n
 sb:b.Size=m
theorem Pair.pos (h:Pair a b n m):0<n/\n<=8/\0<m/\m<=8:=by have:=h.sa;have:=h.sb;have:=h.al.1.1;have:=h.al.1.2.1;have:=h.al.2.1.1;have:=h.al.2.1.2.1;omega
theorem Pair.op (h:Pair a b n m) {i:Nat} (hi:i<a.Ops.length):i<b.Ops.length /\ ∃r:Nat,r<=3/\(nth a.Ops i).Arity=r/\(nth a.Ops i).Table.length=n^r/\(nth b.Ops i).Table.length=m^r/\Bm (nth a.Ops i).Table n/\Bm (nth b.Ops i).Table m/\n^r<=512:=by
 obtain ⟨hn,hn8,hm,hm8⟩:=h.pos;have H:Homs a b (List.replicate n 0) n m:=⟨h.al.1,h.al.2.1,h.al.2.2,h.sa,h.sb,by simp,λx hx=>by rw [(List.mem_replicate.1 hx).2];omega⟩
 obtain ⟨r,h1,h2,h3,h4,h5,h6,h7⟩:=H.op hi;have hib:i<b.Ops.length:=by rw [<-H.ops];exact hi
 have hb:=h.al.2.1.2.2.2 _ (Ao hib);have hmm:b.Size.toNat=m:=by have:=h.sb;omega
 exact ⟨hib,r,h1,h2,h4,h5,h6,by have:=hb.2.2.2;rwa [hmm] at this,h7⟩
structure Srch (a b:SAlgebra) (n M:Nat) (s:Sl7Search):Prop where
 a:s.a=a
 b:s.b=b
 most:s.most=M
 t0:0<=s.tries
 t1:s.tries<=5001
 fl:s.found.length<=M
 rows : ∀r∈s.found,r.length=n
end
theorem A3s {s1 s2:Sl7Search->List Int->Option (Unit×Sl7Search)} (h : ∀s f,LeO (s1 s f) (s2 s f)) (s:Sl7Search) (f:List Int):LeO (Ck s1 s f) (Ck s2 s f):=by
 unfold Ck;refine LeO.bind (LeO.refl _) λq=>LeO.ite (LeO.refl _) (LeO.bind (LeO.loop (λs=> ?_) _) λ_=>LeO.refl _)
 obtain ⟨x,y⟩:=s;unfold A4;dsimp only;refine LeO.bind (LeO.refl _) λt=> ?_
 cases t with
 | inr _=>exact LeO.refl _
 | inl _=>exact LeO.ask (LeO.ite (LeO.refl _) (LeO.bind (LeO.refl _) λr=>LeO.ask (LeO.bind (LeO.refl _) λr2=>LeO.ite (LeO.ite (LeO.bind (LeO.refl _) λr3=>LeO.ite (LeO.bind (h _ _) λ_=>LeO.refl _) (LeO.refl _)) (LeO.bind (h _ _) λ_=>LeO.refl _)) (LeO.refl _))))
theorem A7p {α β γ:Type} {F:Nat->α->β->Option γ} (h0 : ∀a b,F 0 a b=none) (h : ∀n,(∀a b,LeO (F n a b) (F (n+1) a b)) -> ∀a b,LeO (F (n+1) a b) (F (n+2) a b)) (a:α) (b:β):upO λn=>F n a b:=by
 have step : ∀n,∀a b,LeO (F n a b) (F (n+1) a b):=by
  intro n
  induction n with
  | zero=>intro a b v e;rw [h0] at e;cases e
  | succ n ih=>exact h n ih
 have key : ∀n k v,F n a b=some v->F (n+k) a b=some v:=by
  intro n k v e
  induction k with
  | zero=>exact e
  | succ k ih=>exact step (n+k) a b v ih
 intro n m v hnm e;have:=key n (m-n) v e
 rwa [show n+(m-n)=m by omega] at this
theorem Bab (s:Sl7Search) (f:List Int):upO λn=>Au n s f:=A7p (F:=Au) (λ_ _=>rfl) (λ_ h a b=>A3s h a b) s f
theorem Qv {a b:SAlgebra} (h:I3 a b):Pair a b a.Size.toNat b.Size.toNat:=⟨h,by have:=h.1.1;omega,by have:=h.2.1.1;omega⟩
theorem A9w {xss:List (List Int)} {l:List Int} (hn:xss.length<=1048576) (hl:l.length<=LIM) : ∃ys,L1 xss l=some ys/\ys.length=xss.length+1 /\ ∀r∈ys,r∈xss\/r=l:=by
 have hL:=Az;unfold L1;obtain ⟨q,e,j,rfl,hj⟩:=Fn (body:=Id xss l) (λs => ∃j:Nat,s=(j:Int)/\j<=xss.length) (λs=>s.toNat) (λq => ∃j:Nat,q=(j:Int)/\j<=xss.length) (by
  rintro s ⟨j,rfl,hj⟩;unfold Id;by_cases h0:(j:Int)>0
  ·rw [ip0 h0,Af (by omega),Af (by omega)];split
   ·rw [Af (by omega)];exact .inl ⟨_,rfl,⟨j-1,by omega,by omega⟩,by omega⟩
   ·rw [Af (by omega),Af (by omega)];split
    ·rename_i c2;rw [Af (by omega),Af (by omega),A6o (by omega) hl];simp only [obs0];split
     ·rw [Af (by omega)];exact .inl ⟨_,rfl,⟨j-1,by omega,by omega⟩,by omega⟩
     ·exact .inr ⟨_,rfl,j,rfl,hj⟩
    ·exact .inr ⟨_,rfl,j,rfl,hj⟩
  ·rw [in0 h0];exact .inr ⟨_,rfl,j,rfl,hj⟩) (s:=(xss.length:Int)) ⟨_,rfl,Nat.le_refl _⟩
 rw [e];simp only [obs0,Al,List.nil_append,tna0,Int.toNat_zero,List.drop_zero,Nat.sub_zero];rw [Af (by omega),Af (by simp;omega),Af (by simp;omega),Af (by omega),Af (by simp;omega)];refine ⟨_,rfl,by simp;omega,λr hr=> ?_⟩;rcases List.mem_append.1 hr with h1 | h1
 ·rcases List.mem_append.1 h1 with h2 | h2
  ·exact .inl (List.mem_of_mem_take h2)
  ·exact .inr (List.mem_singleton.1 h2)
 ·exact .inl (List.mem_of_mem_drop (List.mem_of_mem_take h1))
theorem A1q {a:SAlgebra} {n:Nat} {xs:List Int} (hx:Aby a n xs):xs.length<=n:=by rw [<-hx.2.2];exact Ph _ _
theorem A05 {a:SAlgebra} {n:Nat} (h:ReadyA a n):Aby a n (Av n (Aba (2^n-1))):=by
 have hb : ∀z,z<n->Aba (2^n-1) z=true:=λz hz=>by unfold Aba;have:=Nat.testBit_two_pow_sub_one n z;rw [Nat.testBit_eq_decide_div_mod_eq] at this;rw [this];exact dtr0 hz
 refine (A0u h).2 ⟨A7d _ _,Wd _ _,λi hi k hk _=>dtr0 (Im.2 ⟨_,(h.val hi hk).2,hb _ (h.val hi hk).2,rfl⟩)⟩
theorem A67 {a:SAlgebra} {n:Nat} (h:ReadyA a n) : ∃r,Lb a=some r/\0<r.length/\r.length<=1048576 /\ ∀x∈r,Aby a n x:=by
 have hL:=Az;have hn8:=h.le;have h20:2^n<=1048576:=A1z (by omega);unfold Lb;obtain ⟨r,e,h1,h2,h3⟩:=Fn (body:=Jd a) (λs => ∃m:Nat,s.1=(m:Int)/\m<=2^n/\s.2.length<=m/\(2^n-1<m->0<s.2.length) /\ ∀x∈s.2,Aby a n x) (λs=>2^n-s.1.toNat) (λr=>0<r.length/\r.length<=1048576 /\ ∀x∈r,Aby a n x) (by
  rintro ⟨x,xs⟩ ⟨m,rfl,m1,m2,m3,m4⟩;dsimp only at m2 m3 m4;unfold Jd;dsimp only;rw [h.sz,Af (by omega),Baa (by omega)];by_cases hm:m<2^n
  ·have hsl:=Ph n (Aba m);rw [ip0 (by omega),A7w (by omega) hm];simp only [obs0];rw [Bb1 h (by omega)];simp only [obs0];by_cases hs:Aby a n (Av n (Aba m))
   ·obtain ⟨ys,e1,y1,y2⟩:=A9w (xss:=xs) (l:=Av n (Aba m)) (by omega) (by omega);rw [dtr0 hs,ip0 rfl,e1];simp only [obs0];rw [Af (by omega)];refine .inl ⟨_,rfl,⟨m+1,rfl,by omega,by first | omega | (dsimp only;omega),λ_=>by first | omega | (dsimp only;omega),λz hz=> ?_⟩,by first | omega | (dsimp only;omega)⟩;rcases y2 z hz with h5 | h5
    ·exact m4 z h5
    ·rw [h5];exact hs
   ·rw [dfa0 hs,in0 (by simp),Af (by omega)];refine .inl ⟨_,rfl,⟨m+1,rfl,by omega,by first | omega | (dsimp only;omega),λhh=> ?_,m4⟩,by first | omega | (dsimp only;omega)⟩;have:m=2^n-1\/2^n-1<m:=by omega
    rcases this with h5 | h5
    ·exact absurd (h5▸A05 h) hs
    ·exact m3 h5
  ·rw [in0 (by omega)];have hp:0<2^n:=Nat.pow_pos (by omega);exact .inr ⟨_,rfl,m3 (by omega),by first | omega | (dsimp only;omega),m4⟩) (s:=((0:Int),Al (List Int))) ⟨0,rfl,Nat.zero_le _,by simp [Al],λhh=>by omega,λx hx=>by cases hx⟩
 rw [e];exact ⟨_,rfl,h1,h2,h3⟩
theorem A2m {a:SAlgebra} (h:Du a):I4 a=some a:=by
 have hL:=Az;unfold I4;have key:=Bp (body:=F9 a) (λi=>((i:Int),(⟨a.Size,a.Ops.take i⟩:SAlgebra))) a.Ops.length a (λi hi=>by
  unfold F9 Qq;dsimp only;have ht:=h.2 _ (Ao hi);have h1:=h.1;rw [ip0 (by omega),Af (by omega),tna0,A1k (by omega)];simp only [obs0];rw [Af (by simp;omega),Af (by omega),Dt hi];rfl) (by
  unfold F9;dsimp only;rw [in0 (by omega),List.take_length])
 have key':Aj (F9 a) (0,{ Size:=a.Size,Ops:=Al SOp })=some a:=key;rw [key'];rfl
theorem A79 {xs:List Int} (hl:xs.length<=1048576) (y:Int) : ∃r,Kr xs y=some r:=by
 unfold Kr;obtain ⟨t,e,_⟩:=Fn (body:=Hp xs y) (λs => ∃i:Nat,s=(i:Int)/\i<=xs.length) (λs=>xs.length-s.toNat) (λ_=>True) (by
  rintro s ⟨i,rfl,g1⟩;unfold Hp;by_cases hi:i<xs.length
  ·rw [ip0 (by omega),Af (by omega)];split
   ·exact .inr ⟨_,rfl,trivial⟩
   ·rw [Af (by omega)];exact .inl ⟨_,rfl,⟨i+1,rfl,by omega⟩,by omega⟩
  ·rw [in0 (by omega)];exact .inr ⟨_,rfl,trivial⟩) (s:=(0:Int)) ⟨0,rfl,Nat.zero_le _⟩
 rw [e];cases t<;>exact ⟨_,rfl⟩
theorem Bbf {a:SAlgebra} {n:Nat} (h:ReadyA a n) (ht:Jm a) {xs:List Int} (hx:Bm xs n) (hl:xs.length<=n) (h0:0<xs.length) : ∃r,Li a xs=some r/\Jm r:=by
 have hL:=Az;have hn8:=h.le;have hn:=h.pos;unfold Li;obtain ⟨r,e,hr1,hr2⟩:=Fn (body:=Je a xs) (λs => ∃i:Nat,s.1=(i:Int)/\i<=a.Ops.length/\s.2.Ops.length=i /\ ∀f∈s.2.Ops,f.Table.length<=101) (λs=>a.Ops.length-s.1.toNat) (λt=>t.Ops.length<=10 /\ ∀f∈t.Ops,f.Table.length<=101) (by
  rintro ⟨x,s⟩ ⟨i,rfl,g1,g2,g3⟩;dsimp only at g2 g3;have ht1:=ht.1;unfold Je;dsimp only;by_cases hi:i<a.Ops.length
  ·obtain ⟨r,e1,hr,l1,t1,l2,_⟩:=h.op hi;have htt:=ht.2 _ (Ao hi);have hle:xs.length^r<=n^r:=Nat.pow_le_pow_left hl r;obtain ⟨o,e2,ho⟩:=Fn (body:=Jj a xs (i:Int) s) (λs => ∃j:Nat,s.1=(j:Int)/\j<=xs.length^r/\s.2.Arity=(r:Int)/\s.2.Table.length=j) (λs=>xs.length^r-s.1.toNat) (λt=>t.Table.length<=101) (by
    rintro ⟨y,o⟩ ⟨j,rfl,k1,k2,k3⟩;dsimp only at k2 k3;unfold Jj;dsimp only;rw [k2,Avg (by omega) hr];simp only [obs0];by_cases hj:j<xs.length^r
    ·rw [ip0 (by omega),Ac4 h0 (by omega) hr (by omega)];simp only [obs0];have hal:=L0 xs.length r j;have hai:=Sv h0 r j;obtain ⟨q,e3,q1,q2⟩:=Fn (body:=Jb a xs (i:Int) s (j:Int) o) (λs => ∃p:Nat,s.1=(p:Int)/\p<=r/\s.2.length=r/\(∀z,z<p->0<=nth s.2 z/\nth s.2 z<n) /\ ∀z,p<=z->z<r->0<=nth s.2 z/\nth s.2 z<xs.length) (λs=>r-s.1.toNat) (λt=>t.length=r/\Bm t n) (by
      rintro ⟨w,g⟩ ⟨p,rfl,p1,p2,p3,p4⟩;dsimp only at p2 p3 p4;unfold Jb;dsimp only;by_cases hp:p<r
      ·have hv:=p4 p (Nat.le_refl _) hp;have hw:=hx _ (Ao (show (nth g p).toNat<xs.length by omega));rw [ip0 (by omega),Af (by omega),tna0,Af (by omega),Af (by omega),Af (by omega)];refine .inl ⟨_,rfl,⟨p+1,rfl,by omega,by simpa using p2,λz hz=> ?_,λz hz1 hz2=> ?_⟩,by first | omega | (dsimp only;omega)⟩
       ·dsimp only;rw [H5 _ _ _ _ (by omega)];split
        ·exact hw
        ·exact p3 z (by omega)
       ·dsimp only;rw [H5 _ _ _ _ (by omega),in0 (by omega)];exact p4 z (by omega) hz2
      ·rw [in0 (by omega)];refine .inr ⟨_,rfl,p2,λv hv=> ?_⟩;obtain ⟨z,hz,rfl⟩:=List.getElem_of_mem hv;have:=p3 z (by omega)
       rwa [Cz hz] at this) (s:=((0:Int),L8 xs.length r j)) ⟨0,rfl,Nat.zero_le _,hal,λz hz=>by omega,λz _ hz=>hai _ (Ao (by omega))⟩
     rw [e3];simp only [obs0];rw [A25 hn8 h.sz hi (by omega) q2 (by rw [q1];exact l1)];simp only [obs0];obtain ⟨v,e4⟩:=A79 (xs:=xs) (by omega) (nth (nth a.Ops i).Table (Uc n q).toNat);rw [e4];simp only [obs0];rw [Af (by simp;omega),Af (by omega)];exact .inl ⟨_,rfl,⟨j+1,rfl,by omega,rfl,by simp;omega⟩,by first | omega | (dsimp only;omega)⟩
    ·rw [in0 (by omega)];exact .inr ⟨_,rfl,by first | omega | (dsimp only;omega)⟩) (s:=((0:Int),{ Arity:=(nth a.Ops i).Arity,Table:=Al Int })) ⟨0,rfl,Nat.zero_le _,e1,rfl⟩
   rw [ip0 (by omega),Af (by omega),tna0,e2];simp only [obs0];rw [Af (by simp;omega),Af (by omega)];refine .inl ⟨_,rfl,⟨i+1,rfl,by omega,by simp;omega,λf hf=> ?_⟩,by first | omega | (dsimp only;omega)⟩;rcases List.mem_append.1 hf with h1 | h1
   ·exact g3 f h1
   ·rw [List.mem_singleton.1 h1];exact ho
  ·rw [in0 (by omega)];exact .inr ⟨_,rfl,by first | omega | (dsimp only;omega),g3⟩) (s:=((0:Int),{ Size:=(xs.length:Int),Ops:=Al SOp })) ⟨0,rfl,Nat.zero_le _,rfl,λf hf=>by cases hf⟩
 rw [e];exact ⟨_,rfl,hr1,hr2⟩
theorem A5n {a:SAlgebra} (ht:Jm a) {f:List Int} {n:Nat} {z:Int}:Jm ⟨z,a.Ops.map (Iu f n)⟩:=by refine ⟨by simpa using ht.1,λg hg=> ?_⟩;obtain ⟨o,ho,rfl⟩:=List.mem_map.1 hg;have:=ht.2 o ho;simp only [Iu,R3,List.length_replicate];exact this
theorem A5k {α A B C:Type} {o:Option α} {k:α->Option ((A×B)×C)} {Q:α->Prop} {R:A->B->C->Prop} (h : ∃a,o=some a/\Q a) (h2 : ∀a,Q a -> ∃x y z,k a=some ((x,y),z)/\R x y z) : ∃x y z,o.bind k=some ((x,y),z)/\R x y z:=by obtain ⟨a,rfl,ha⟩:=h;exact h2 a ha
theorem A4f {c:Sl1Cur} {k:Nat} (h:Cur k c) (hk:k<=400000000) : ∃a b d,Hn c=some ((a,b),d)/\Cur (k+20000) d/\Jm a/\Jm b:=by
 have hL:=Az;unfold Hn;obtain ⟨a,d,e,hd,ha⟩:=N5 h (by omega);have hs:=Qz ha;rw [e];simp only [obs0];rw [Y2 hs];simp only [obs0];by_cases hg:B8 a
 ·rw [dtr0 hg,ip0 rfl];obtain ⟨w,d1,e1,hd1⟩:=Ayt hd (by omega) 8;rw [e1];simp only [obs0];by_cases hw:w=true
  ·rw [ip0 hw];obtain ⟨b,d2,e2,hd2,hb⟩:=N5 hd1 (by omega);rw [e2];exact ⟨_,_,_,rfl,hd2.mono (by omega),ha,hb⟩
  rw [in0 hw];simp only [obs0];have hr:=Bbl hg;have hz:=hr.sz;have h8:=hr.le;obtain ⟨y,d2,e2,hd2,y0,y1⟩:=Fc hd1 (by omega) 5;rw [e2];simp only [obs0];have mid : ∀ {R:Option ((SAlgebra×SAlgebra×Sl1Cur) ⊕ Sl1Cur)},R=(if y=0 then (I4 a).bind λr16=>some (.inl (r16,a,d2))
    else if y=1 then (Co d2 a.Size).bind λ(r18,u19)=>(Ju r18 a.Size).bind λr20=>if r20=true then (Hb a r18).bind λr22=>some (.inl (r22,a,u19)) else some (.inr u19)
    else if y=2 then (Lb a).bind λr24=>ask (InI ((r24.length:Int)-1))<|ask (0<=(r24.length:Int)-1/\(r24.length:Int)-1<(r24.length:Int)) <|
      if ((nth r24 ((r24.length:Int)-1).toNat).length:Int)>0 then (A9 d2 (r24.length:Int)).bind λ(r28,u29)=>ask (0<=r28/\r28<(r24.length:Int)) <|
       if ((nth r24 r28.toNat).length:Int)>0 then (Li a (nth r24 r28.toNat)).bind λr32=>some (.inl (a,r32,u29)) else some (.inr u29)
      else some (.inr d2)
    else if y=3 then (Aj (Ea a) (0,d2)).bind λt=>match t with | (.inl (q43_3,q43_119))=>(some (.inl (q43_3,a,q43_119))) | (.inr q43_119)=>(some (.inr q43_119))
    else some (.inr d2)) -> ∃t,R=some t/\(∀p q u,t = .inl (p,q,u)->Jm p/\Jm q/\Cur (k+15000) u) /\ ∀u,t = .inr u->Cur (k+15000) u:=by
   rintro R rfl;by_cases c0:y=0
   ·rw [ip0 c0,A2m hs];exact ⟨_,rfl,λp q u hh=>by cases hh;exact ⟨ha,ha,hd2.mono (by omega)⟩,λu hh=>by cases hh⟩
   rw [in0 c0];by_cases c1:y=1
   ·rw [ip0 c1,hz];obtain ⟨l,d3,e3,hd3,hl⟩:=Aou hd2 (by omega) a.Size.toNat (by omega);rw [e3];simp only [obs0];rw [A7e (by omega) (by omega)];simp only [obs0];by_cases hp:(l.length:Int)=(a.Size.toNat:Nat)/\Bm l (a.Size.toNat:Nat)/\uniq l
    ·have hpd:(decide ((l.length:Int)=(a.Size.toNat:Nat)/\Bm l (a.Size.toNat:Nat)/\uniq l))=true:=dtr0 hp;simp only [hpd,if_true];rw [A1m hg hz ⟨by have:=hp.1;omega,hp.2.1,hp.2.2⟩];exact ⟨_,rfl,λp q u hh=>by cases hh;exact ⟨A5n ha,ha,hd3.mono (by omega)⟩,λu hh=>by cases hh⟩
    ·have hpd:(decide ((l.length:Int)=(a.Size.toNat:Nat)/\Bm l (a.Size.toNat:Nat)/\uniq l))=false:=dfa0 hp;simp only [hpd,Bool.false_eq_true,if_false];exact ⟨_,rfl,λp q u hh=>(nomatch hh),λu hh=>by cases hh;exact hd3.mono (by omega)⟩
   rw [in0 c1];by_cases c2:y=2
   ·obtain ⟨subs,e7,hpos,hsl,hall⟩:=A67 hr;rw [ip0 c2,e7];simp only [obs0];rw [Af (by omega),Af (by omega)];split
    ·obtain ⟨v,d3,e3,hd3,v0,v1⟩:=Fc hd2 (by omega) (subs.length:Int);rw [e3];simp only [obs0];rw [Af (by omega)];have hsub:=hall _ (Ao (show v.toNat<subs.length by omega));generalize nth subs v.toNat=xs at hsub ⊢;by_cases hx0:(xs.length:Int)>0
     ·rw [ip0 hx0];obtain ⟨b,e4,hb⟩:=Bbf hr ha hsub.1 (A1q hsub) (by omega);rw [e4];exact ⟨_,rfl,λp q u hh=>by cases hh;exact ⟨ha,hb,hd3.mono (by omega)⟩,λu hh=>by cases hh⟩
     ·rw [in0 hx0];exact ⟨_,rfl,λp q u hh=>(nomatch hh),λu hh=>by cases hh;exact hd3.mono (by omega)⟩
    ·exact ⟨_,rfl,λp q u hh=>(nomatch hh),λu hh=>by cases hh;exact hd2.mono (by omega)⟩
   rw [in0 c2];by_cases c3:y=3
   ·rw [ip0 c3];obtain ⟨t,e3,t1,t2⟩:=Fn (body:=Ea a) (λs => ∃j:Nat,s.1=(j:Int)/\j<=12/\Cur (k+1004+1000*j) s.2) (λs=>12-s.1.toNat) (λt=>(∀p u,t = .inl (p,u)->Jm p/\Cur (k+15000) u) /\ ∀u,t = .inr u->Cur (k+15000) u) (by
     rintro ⟨x,c⟩ ⟨j,rfl,j1,j2⟩;dsimp only at j2;unfold Ea;dsimp only;by_cases hj:j<12
     ·rw [ip0 (by omega)];obtain ⟨b,d3,e3,hd3,hb⟩:=N5 j2 (by omega);have hsb:=Qz hb;rw [e3];simp only [obs0];rw [Y2 hsb];simp only [obs0];split
      ·unfold Jw;rw [Agc hs,Agc hsb];simp only [obs0];rw [Ahq (Aix hs)];simp only [obs0];split
       ·exact .inr ⟨_,rfl,λp u hh=>by cases hh;exact ⟨hb,hd3.mono (by omega)⟩,λu hh=>by cases hh⟩
       ·rw [Af (by omega)];exact .inl ⟨_,rfl,⟨j+1,rfl,by omega,hd3.mono (by omega)⟩,by first | omega | (dsimp only;omega)⟩
      ·rw [Af (by omega)];exact .inl ⟨_,rfl,⟨j+1,rfl,by omega,hd3.mono (by omega)⟩,by first | omega | (dsimp only;omega)⟩
     ·rw [in0 (by omega)];exact .inr ⟨_,rfl,λp u hh=>(nomatch hh),λu hh=>by cases hh;exact j2.mono (by omega)⟩) (s:=((0:Int),d2)) ⟨0,rfl,Nat.zero_le _,hd2.mono (by omega)⟩
    rw [e3];simp only [obs0];cases t with
    | inl q=> obtain ⟨q1,q2⟩:=q;obtain ⟨s1,s2⟩:=t1 q1 q2 rfl;exact ⟨_,rfl,λp q u hh=>by cases hh;exact ⟨s1,ha,s2⟩,λu hh=>by cases hh⟩
    | inr q=>exact ⟨_,rfl,λp q u hh=>(nomatch hh),λu hh=>by cases hh;exact t2 _ rfl⟩
   ·rw [in0 c3];exact ⟨_,rfl,λp q u hh=>(nomatch hh),λu hh=>by cases hh;exact hd2.mono (by omega)⟩
  refine A5k (R:=λa b d=>Cur (k+20000) d/\Jm a/\Jm b) (mid rfl) λt ht=> ?_
  obtain ⟨t1,t2⟩:=ht;cases t with
  | inl q=> obtain ⟨q1,q2,q3⟩:=q;obtain ⟨s1,s2,s3⟩:=t1 q1 q2 q3 rfl;exact ⟨_,_,_,rfl,s3.mono (by omega),s2,s1⟩
  | inr u=>
    have hu:=t2 u rfl;dsimp only;rw [A2m hs];simp only [obs0];have hot : ∀i,i<a.Ops.length->1<=(nth a.Ops i).Table.length:=by intro i hi;obtain ⟨r,_,_,l1,_⟩:=hr.op hi;have:=Nat.pow_pos (n:=r) hr.pos;omega
    obtain ⟨⟨b,d3⟩,e3,hb,hd3⟩:=Fn (body:=Fo a) (λs => ∃i:Nat,s.1=(i:Int)/\i<=a.Ops.length/\s.2.1.Ops.length=a.Ops.length/\(∀z,z<a.Ops.length->(nth s.2.1.Ops z).Table.length=(nth a.Ops z).Table.length)/\Cur (k+15000+4*i) s.2.2) (λs=>a.Ops.length-s.1.toNat) (λt=>Jm t.1/\Cur (k+20000) t.2) (by
     rintro ⟨x,b,c⟩ ⟨i,rfl,i1,i2,i3,i4⟩;dsimp only at i2 i3 i4;have hal:=ha.1;unfold Fo;dsimp only;rw [i2];by_cases hi:i<a.Ops.length
     ·have h3:=i3 i hi;have h4:=hot i hi;rw [ip0 (by omega),Af (by omega),tna0];obtain ⟨v,d4,e4,hd4,v0,v1⟩:=Fc i4 (by omega) ((nth b.Ops i).Table.length:Int);rw [e4];simp only [obs0];obtain ⟨w,d5,e5,hd5,_⟩:=Fc hd4 (by omega) b.Size;rw [e5];simp only [obs0];rw [Af (by omega),Af (by omega)];refine .inl ⟨_,rfl,⟨i+1,rfl,by omega,by simpa using i2,λz hz=> ?_,hd5.mono (by omega)⟩,by first | omega | (dsimp only;omega)⟩;dsimp only;rw [H5 _ _ _ _ (by omega)];split
      ·rename_i hh;subst hh;simp only [List.length_set];exact h3
      ·exact i3 z hz
     ·rw [in0 (by omega)];refine .inr ⟨_,rfl,⟨by first | omega | (dsimp only;omega),λf hf=> ?_⟩,i4.mono (by omega)⟩;obtain ⟨z,hz,rfl⟩:=List.getElem_of_mem hf;dsimp only at hz;have h3:=i3 z (by omega);rw [Cz hz] at h3;have:=ha.2 _ (Ao (show z<a.Ops.length by omega));dsimp only;omega) (s:=((0:Int),a,u)) ⟨0,rfl,Nat.zero_le _,rfl,λ_ _=>rfl,hu.mono (by omega)⟩
    rw [e3];exact ⟨_,_,_,rfl,hd3,ha,hb⟩
 ·rw [dfa0 hg,in0 (by simp)];obtain ⟨b,d2,e2,hd2,hb⟩:=N5 hd (by omega);rw [e2];exact ⟨_,_,_,rfl,hd2.mono (by omega),ha,hb⟩
def Al7 {σ:Type} (step:Nat->σ->Option σ):Nat->Nat->σ->Option σ
 | 0,_,s=>some s
 | c+1,i,s=>(step i s).bind (Al7 step c (i+1))
theorem Ag6 {σ α τ:Type} {body:Int×σ->Option ((Int×σ) ⊕ (α ⊕ τ))} {step:Nat->σ->Option σ} (inv:σ->Prop) (out:σ->τ) (N:Nat)
  (h1 : ∀i s s',i<N->inv s->step i s=some s'->inv s'/\body ((i:Int),s)=some (.inl (((i+1:Nat):Int),s')))
  (h2 : ∀i s,i<N->inv s->step i s=none -> ∃e,body ((i:Int),s)=some (.inr (.inl e)))
  (h3 : ∀s,inv s->body ((N:Int),s)=some (.inr (.inr (out s)))) : ∀c i s,i+c=N->inv s ->
  (∃s',Al7 step c i s=some s'/\inv s'/\Aj body ((i:Int),s)=some (.inr (out s')))\/(Al7 step c i s=none /\ ∃e,Aj body ((i:Int),s)=some (.inl e)):=by
 intro c
 induction c with
 | zero=>
   intro i s hi hs;have:i=N:=by omega
   subst this;exact .inl ⟨s,rfl,hs,Cn (h3 s hs)⟩
 | succ c ih=>
   intro i s hi hs;simp only [Al7];cases e:step i s with
   | none=> obtain ⟨x,hx⟩:=h2 i s (by omega) hs e;exact .inr ⟨rfl,x,Cn hx⟩
   | some s'=> obtain ⟨k1,k2⟩:=h1 i s s' (by omega) hs e;rw [F2 k2];exact ih (i+1) s' (by omega) k1
theorem At0 {σ:Type} {step:Nat->σ->Option σ} (P:σ->Prop) : ∀c i s s',(∀j t t',i<=j->j<i+c->P t->step j t=some t'->P t')->P s->Al7 step c i s=some s'->P s':=by
 intro c
 induction c with
 | zero=>intro i s s' _ h1 h2;cases h2;exact h1
 | succ c ih=> intro i s s' h h1 h2;simp only [Al7] at h2;obtain ⟨t,h3,h4⟩:=Option.bind_eq_some_iff.1 h2;exact ih (i+1) t s' (λj t t' k1 k2=>h j t t' (by omega) (by omega)) (h i s t (Nat.le_refl _) (by omega) h1 h3) h4
theorem As4 {σ:Type} {step:Nat->σ->Option σ} (P:σ->Prop) : ∀c i s,(∀j t,i<=j->j<i+c->P t -> ∃t',step j t=some t'/\P t')->P s -> ∃s',Al7 step c i s=some s'/\P s':=by
 intro c
 induction c with
 | zero=>intro i s _ h1;exact ⟨s,rfl,h1⟩
 | succ c ih=> intro i s h h1;simp only [Al7];obtain ⟨t,h2,h3⟩:=h i s (Nat.le_refl _) (by omega) h1;rw [h2];exact ih (i+1) t (λj t k1 k2=>h j t (by omega) (by omega)) h3
theorem An2 {σ:Type} {step:Nat->σ->Option σ} (P moved:σ->Prop) : ∀c i s s',(∀j t t',i<=j->j<i+c->P t->step j t=some t'->P t'/\(t'=t\/moved t')/\(moved t->moved t'))->P s->Al7 step c i s=some s'->¬moved s' ->
  s'=s /\ ∀j,i<=j->j<i+c->step j s=some s:=by
 intro c
 induction c with
 | zero=>intro i s s' _ _ h2 _;cases h2;exact ⟨rfl,λj k1 k2=>by omega⟩
 | succ c ih=>
   intro i s s' h h1 h2 h3;simp only [Al7] at h2;obtain ⟨t,h4,h5⟩:=Option.bind_eq_some_iff.1 h2;obtain ⟨g1,g2,g3⟩:=h i s t (Nat.le_refl _) (by omega) h1 h4;obtain ⟨e1,e2⟩:=ih (i+1) t s' (λj t t' k1 k2=>h j t t' (by omega) (by omega)) g1 h5 h3;subst e1;rcases g2 with rfl | hm
   ·refine ⟨rfl,λj k1 k2=> ?_⟩;by_cases hj:j=i
    ·subst hj;exact h4
    ·exact e2 j (by omega) (by omega)
   ·exact absurd hm h3
def Lq (n:Nat) (g:List Int) (r k:Nat):List Int:=(L8 n r k).map λx=>nth g x.toNat
theorem As9 (n:Nat) (g:List Int) (r k:Nat):Lq n g (r+1) k=Lq n g r (k/n)++[nth g (k%n)]:=by simp only [Lq,L8,List.map_append,List.map_cons,List.map_nil,tna0]
theorem Rj (n:Nat) (g:List Int) (r k:Nat):(Lq n g r k).length=r:=by simp [Lq,L0]
theorem Amv {n m:Nat} (hn:0<n) {g:List Int} (hg:okF n m g) (r k:Nat) (h:(-1:Int)∉Lq n g r k):Bm (Lq n g r k) m:=by
 intro y hy;obtain ⟨x,hx,rfl⟩:=List.mem_map.1 hy;have h1:=Sv hn r k x hx;have h2:=hg.2 _ (Ao (show x.toNat<g.length by have:=hg.1;omega));have h3:nth g x.toNat ≠ -1:=λhe=>h (List.mem_map.2 ⟨x,hx,he⟩)
 omega
noncomputable def Pc (a b:SAlgebra) (n m i k:Nat) (s:Bool×List Int):Option (Bool×List Int):=
 if (-1:Int)∈Lq n s.2 (nth a.Ops i).Arity.toNat k then some s
 else if 0<=nth s.2 (nth (nth a.Ops i).Table k).toNat then
  (if nth s.2 (nth (nth a.Ops i).Table k).toNat=nth (nth b.Ops i).Table (Uc m (Lq n s.2 (nth a.Ops i).Arity.toNat k)).toNat then some s else none)
 else some (true,s.2.set (nth (nth a.Ops i).Table k).toNat (nth (nth b.Ops i).Table (Uc m (Lq n s.2 (nth a.Ops i).Arity.toNat k)).toNat))
noncomputable def opZ (a b:SAlgebra) (n m i:Nat) (s:Bool×List Int):Option (Bool×List Int):=Al7 (Pc a b n m i) (nth a.Ops i).Table.length 0 s
noncomputable def Ac1 (a b:SAlgebra) (n m:Nat) (g:List Int):Option (Bool×List Int):=Al7 (opZ a b n m) a.Ops.length 0 (false,g)
noncomputable def Pz (a b:SAlgebra) (n m:Nat):Nat->List Int->Option (List Int)
 | 0,g=>some g
 | k+1,g=>match Ac1 a b n m g with
   | none=>none
   | some (c,g')=>if c=true then Pz a b n m k g' else some g'
noncomputable def Wo (a b:SAlgebra) (n m:Nat) (g:List Int):Option (List Int):=Pz a b n m (Cf g+1) g
def ext (g h:List Int):Prop := ∀x,x<g.length->0<=nth g x->nth h x=nth g x
theorem Adb (g:List Int):ext g g:=λ_ _ _=>rfl
theorem Xp {f g h:List Int} (hl:f.length=g.length) (h1:ext f g) (h2:ext g h):ext f h:=λx hx h0=>by have e:=h1 x hx h0;rw [h2 x (by omega) (by omega),e]
section
variable {a b:SAlgebra} {n m:Nat}
theorem Pair.arity (h:Pair a b n m) {i:Nat} (hi:i<a.Ops.length):(nth a.Ops i).Arity.toNat<=3/\((nth a.Ops i).Arity:Int)=((nth a.Ops i).Arity.toNat:Nat)/\(nth a.Ops i).Table.length=n^(nth a.Ops i).Arity.toNat/\(nth b.Ops i).Table.length=m^(nth a.Ops i).Arity.toNat:=by obtain ⟨_,r,hr,e1,l1,l2,_⟩:=h.op hi;rw [e1,tna0];exact ⟨hr,rfl,l1,l2⟩
theorem A88 (h:Pair a b n m) {i k:Nat} (hi:i<a.Ops.length) {g:List Int} (hg:okF n m g) (ho:(-1:Int)∉Lq n g (nth a.Ops i).Arity.toNat k) :
  ∃p:Nat,Uc m (Lq n g (nth a.Ops i).Arity.toNat k)=(p:Int)/\p<(nth b.Ops i).Table.length/\0<=nth (nth b.Ops i).Table p/\nth (nth b.Ops i).Table p<m:=by
 obtain ⟨hn,hn8,hm,hm8⟩:=h.pos;obtain ⟨_,r,hr,e1,l1,l2,t1,t2,_⟩:=h.op hi;obtain ⟨hr3,_,_,l4⟩:=h.arity hi;have hin:=Amv hn hg _ k ho;obtain ⟨p,hp1,hp2,_⟩:=Mr hm8 (xs:=Lq n g (nth a.Ops i).Arity.toNat k) (by rw [Rj];exact hr3) hin;rw [Rj] at hp2;have hp:p<(nth b.Ops i).Table.length:=by rw [l4];exact hp2
 have:=t2 _ (Ao hp);exact ⟨p,hp1,hp,this.1,this.2⟩
theorem Acj (h:Pair a b n m) {i k:Nat} (hi:i<a.Ops.length) (hk:k<(nth a.Ops i).Table.length) {s s':Bool×List Int} (hs:okF n m s.2) (e:Pc a b n m i k s=some s') :
  okF n m s'.2/\ext s.2 s'.2/\Cf s'.2<=Cf s.2/\(s'=s\/(s'.1=true/\Cf s'.2<Cf s.2))/\(s.1=true->s'.1=true):=by
 obtain ⟨_,r,hr,e1,l1,l2,t1,t2,_⟩:=h.op hi;have hv:=t1 _ (Ao hk);have hl:=hs.1;unfold Pc at e;split at e
 ·cases e;exact ⟨hs,Adb _,Nat.le_refl _,.inl rfl,id⟩
 ·rename_i ho;split at e
  ·split at e
   ·cases e;exact ⟨hs,Adb _,Nat.le_refl _,.inl rfl,id⟩
   ·cases e
  ·rename_i h0;obtain ⟨p,hp1,hp2,hp3,hp4⟩:=A88 h hi hs ho;rw [hp1,tna0] at e;cases e;have hlt:=Xa (f:=s.2) (i:=(nth (nth a.Ops i).Table k).toNat) (by omega) (by omega) hp3;refine ⟨hs.set ⟨hp3,hp4⟩,λx hx hx0=> ?_,Nat.le_of_lt hlt,.inr ⟨rfl,hlt⟩,λ_=>rfl⟩;show nth (s.2.set _ _) x=_;rw [H5 _ _ _ _ hx];split
   ·rename_i e2;subst e2;omega
   ·rfl
theorem A4d (h:Pair a b n m) {i k:Nat} (hi:i<a.Ops.length) (hk:k<(nth a.Ops i).Table.length) {s:Bool×List Int} (hs:okF n m s.2) {f:List Int} (_hf:Homs a b f n m) (hn:¬faulty a b f n m) (he:ext s.2 f) :
  ∃s',Pc a b n m i k s=some s'/\ext s'.2 f:=by
 obtain ⟨hn0,_,_,_⟩:=h.pos;obtain ⟨_,r,hr,e1,l1,l2,t1,t2,_⟩:=h.op hi;have hv:=t1 _ (Ao hk);have hl:=hs.1;unfold Pc;split
 ·exact ⟨s,rfl,he⟩
 ·rename_i ho;have hin:=Amv hn0 hs _ k ho;have himg:Lq n s.2 (nth a.Ops i).Arity.toNat k=Lq n f (nth a.Ops i).Arity.toNat k:=by
   unfold Lq;refine List.map_congr_left λx hx=> ?_
   have h1:=Sv hn0 _ k x hx;exact (he x.toNat (by omega) (hin _ (List.mem_map.2 ⟨x,hx,rfl⟩)).1).symm
  have hval:nth f (nth (nth a.Ops i).Table k).toNat=nth (nth b.Ops i).Table (Uc m (Lq n s.2 (nth a.Ops i).Arity.toNat k)).toNat:=by rw [himg];unfold Lq;rw [Ud];exact Classical.not_not.1 λhx=>hn ⟨i,hi,k,hk,hx⟩
  rw [<-hval];split
  ·rename_i h0;rw [ip0 (he _ (by omega) h0).symm];exact ⟨s,rfl,he⟩
  ·refine ⟨_,rfl,λx hx h1=> ?_⟩;simp only [List.length_set] at hx;show _=nth (s.2.set _ _) x;have h2:0<=nth (s.2.set (nth (nth a.Ops i).Table k).toNat (nth f (nth (nth a.Ops i).Table k).toNat)) x:=h1;rw [H5 _ _ _ _ hx] at h2 ⊢;split at h2
   ·rename_i e2;rw [ip0 e2,e2]
   ·rename_i e2;rw [in0 e2];exact he x hx h2
theorem Aur (h:Pair a b n m) {i:Nat} (hi:i<a.Ops.length) {s s':Bool×List Int} (hs:okF n m s.2) (e:opZ a b n m i s=some s') :
  okF n m s'.2/\ext s.2 s'.2/\Cf s'.2<=Cf s.2/\(s'=s\/(s'.1=true/\Cf s'.2<Cf s.2))/\(s.1=true->s'.1=true):=by
 refine At0 (step:=Pc a b n m i) (λt=>okF n m t.2/\ext s.2 t.2/\Cf t.2<=Cf s.2/\(t=s\/(t.1=true/\Cf t.2<Cf s.2))/\(s.1=true->t.1=true)) _ 0 s s' ?_ ⟨hs,Adb _,Nat.le_refl _,.inl rfl,id⟩ e;rintro j t t' _ hj ⟨g1,g2,g3,g4,g5⟩ h2;obtain ⟨k1,k2,k3,k4,k5⟩:=Acj h hi (by omega) g1 h2;refine ⟨k1,Xp (by rw [hs.1,g1.1]) g2 k2,by omega,?_,λhh=>k5 (g5 hh)⟩;rcases k4 with rfl | k4
 ·exact g4
 ·exact .inr ⟨k4.1,by omega⟩
theorem A9i (h:Pair a b n m) {i:Nat} (hi:i<a.Ops.length) {s:Bool×List Int} (hs:okF n m s.2) {f:List Int} (hf:Homs a b f n m) (hn:¬faulty a b f n m) (he:ext s.2 f) :
  ∃s',opZ a b n m i s=some s'/\okF n m s'.2/\ext s'.2 f:=by
 refine As4 (step:=Pc a b n m i) (λt=>okF n m t.2/\ext t.2 f) _ 0 s ?_ ⟨hs,he⟩;rintro j t _ hj ⟨g1,g2⟩;obtain ⟨t',h1,h2⟩:=A4d h hi (show j<_ by omega) g1 hf hn g2;exact ⟨t',h1,(Acj h hi (by omega) g1 h1).1,h2⟩
theorem A4t (h:Pair a b n m) {i:Nat} (hi:i<a.Ops.length) {g:List Int} (hs:okF n m g) (e:opZ a b n m i (false,g)=some (false,g)) : ∀k,k<(nth a.Ops i).Table.length->Pc a b n m i k (false,g)=some (false,g):=by have:=An2 (step:=Pc a b n m i) (λt=>okF n m t.2) (λt=>t.1=true) _ 0 (false,g) (false,g) (by rintro j t t' _ hj g1 h2;obtain ⟨k1,k2,k3,k4,k5⟩:=Acj h hi (by omega) g1 h2;exact ⟨k1,k4.imp id (·.1),k5⟩) hs e (by simp);exact λk hk=>this.2 k (Nat.zero_le _) (by omega)
theorem Ajk (h:Pair a b n m) {g:List Int} {s':Bool×List Int} (hs:okF n m g) (e:Ac1 a b n m g=some s') :
  okF n m s'.2/\ext g s'.2/\Cf s'.2<=Cf g/\(s'=(false,g)\/(s'.1=true/\Cf s'.2<Cf g)):=by
 refine At0 (step:=opZ a b n m) (λt=>okF n m t.2/\ext g t.2/\Cf t.2<=Cf g/\(t=(false,g)\/(t.1=true/\Cf t.2<Cf g))) _ 0 (false,g) s' ?_ ⟨hs,Adb _,Nat.le_refl _,.inl rfl⟩ e;rintro j t t' _ hj ⟨g1,g2,g3,g4⟩ h2;obtain ⟨k1,k2,k3,k4,k5⟩:=Aur h (by omega) g1 h2;refine ⟨k1,Xp (by rw [hs.1,g1.1]) g2 k2,by omega,?_⟩;rcases k4 with rfl | k4
 ·exact g4
 ·exact .inr ⟨k4.1,by omega⟩
theorem A0t (h:Pair a b n m) {g:List Int} (hs:okF n m g) {f:List Int} (hf:Homs a b f n m) (hn:¬faulty a b f n m) (he:ext g f) :
  ∃s',Ac1 a b n m g=some s'/\okF n m s'.2/\ext s'.2 f:=by
 refine As4 (step:=opZ a b n m) (λt=>okF n m t.2/\ext t.2 f) _ 0 (false,g) ?_ ⟨hs,he⟩;rintro j t _ hj ⟨g1,g2⟩;exact A9i h (by omega) g1 hf hn g2
theorem Au4 (h:Pair a b n m) {g:List Int} {s':Bool×List Int} (hs:okF n m g) (e:Ac1 a b n m g=some s') (hc:¬s'.1=true) :
  s'=(false,g) /\ ∀i,i<a.Ops.length -> ∀k,k<(nth a.Ops i).Table.length->Pc a b n m i k (false,g)=some (false,g):=by
 have:=An2 (step:=opZ a b n m) (λt=>okF n m t.2) (λt=>t.1=true) _ 0 (false,g) s' (by rintro j t t' _ hj g1 h2;obtain ⟨k1,k2,k3,k4,k5⟩:=Aur h (by omega) g1 h2;exact ⟨k1,k4.imp id (·.1),k5⟩) hs e hc;obtain ⟨rfl,h2⟩:=this;exact ⟨rfl,λi hi=>A4t h hi hs (h2 i (Nat.zero_le _) (by omega))⟩
theorem A4h (h:Pair a b n m) {g:List Int} (hs:okF n m g) (h0:Cf g=0) (hc : ∀i,i<a.Ops.length -> ∀k,k<(nth a.Ops i).Table.length->Pc a b n m i k (false,g)=some (false,g)):Oo a b g:=by
 obtain ⟨hn0,_,_,_⟩:=h.pos;have hpos : ∀x∈g,0<=x:=by intro x hx;have:=List.countP_eq_zero.1 h0 x hx;simpa using this
 have hsz:Bm g m:=λx hx=>⟨hpos x hx,(hs.2 x hx).2⟩
 have ha:a.Size.toNat=n:=by have:=h.sa;omega
 have hb:b.Size.toNat=m:=by have:=h.sb;omega
 refine ⟨h.al,⟨by rw [hs.1,h.sa],by rw [h.sb];exact hsz⟩,?_⟩;rw [ha,hb];rintro ⟨i,hi,k,hk,hf⟩;have e:=hc i hi k hk;obtain ⟨_,r,hr,e1,l1,l2,t1,t2,_⟩:=h.op hi;have hv:=t1 _ (Ao hk);have hl:=hs.1;unfold Pc at e;split at e
 ·rename_i ho;obtain ⟨x,hx,h1⟩:=List.mem_map.1 ho;have h2:=Sv hn0 _ k x hx;have h3:=hpos _ (Ao (show x.toNat<g.length by omega));have h1':nth g x.toNat = -1:=h1;omega
 ·rw [ip0 (hpos _ (Ao (by omega)))] at e;split at e
  ·rename_i e2;refine hf ?_;rw [<-Ud];exact e2
  ·cases e
theorem A3v (h:Pair a b n m) : ∀k g g',Cf g<k->okF n m g->Pz a b n m k g=some g'->okF n m g'/\ext g g'/\Cf g'<=Cf g/\(Cf g'=0->Oo a b g'):=by
 intro k
 induction k with
 | zero=>intro g g' hk;omega
 | succ k ih=>
   intro g g' hk hg e;simp only [Pz] at e;split at e
   ·cases e
   ·rename_i c g1 e1;obtain ⟨k1,k2,k3,k4⟩:=Ajk h hg e1;split at e
    ·rename_i hc;rcases k4 with k4 | k4
     ·cases k4;cases hc
     ·obtain ⟨i1,i2,i3,i4⟩:=ih g1 g' (by have:=k4.2;simp only at this;omega) k1 e;exact ⟨i1,Xp (by rw [hg.1,k1.1]) k2 i2,by simp only at k3;omega,i4⟩
    ·rename_i hc;cases e;obtain ⟨e2,h2⟩:=Au4 h hg e1 hc;cases e2;exact ⟨k1,k2,k3,λh0=>A4h h hg h0 h2⟩
theorem A1s (h:Pair a b n m) {f:List Int} (hf:Homs a b f n m) (hn:¬faulty a b f n m) : ∀k g,okF n m g->ext g f -> ∃g',Pz a b n m k g=some g'/\ext g' f:=by
 intro k
 induction k with
 | zero=>intro g _ he;exact ⟨g,rfl,he⟩
 | succ k ih=>
   intro g hg he;obtain ⟨⟨c,g1⟩,e1,h1,h2⟩:=A0t h hg hf hn he;simp only [Pz,e1];split
   ·exact ih g1 h1 h2
   ·exact ⟨g1,rfl,h2⟩
theorem S3 (h:Pair a b n m) {g g':List Int} (hg:okF n m g) (e:Wo a b n m g=some g'):okF n m g'/\ext g g'/\Cf g'<=Cf g/\(Cf g'=0->Oo a b g'):=A3v h _ g g' (Nat.lt_succ_self _) hg e
theorem A0c (h:Pair a b n m) {f g:List Int} (hg:okF n m g) (hf:Oo a b f) (he:ext g f) : ∃g',Wo a b n m g=some g'/\ext g' f:=by
 have ha:a.Size.toNat=n:=by have:=h.sa;omega
 have hb:b.Size.toNat=m:=by have:=h.sb;omega
 have H:=Aha h.al hf.2.1;have hF:=hf.2.2;rw [ha,hb] at H hF;exact A1s h H hF _ g hg he
theorem Asy (h:Pair a b n m) {i k:Nat} (hi:i<a.Ops.length) (hk:k<(nth a.Ops i).Table.length) {s:Bool×List Int} (hs:okF n m s.2) :
  C8 a b (i:Int) ((k:Int),s)=match Pc a b n m i k s with | some s'=>some (.inl (((k+1:Nat):Int),s')) | none=>some (.inr (.inl ())):=by
 obtain ⟨hn,hn8,hm,hm8⟩:=h.pos;obtain ⟨hib,r,hr,e1,l1,l2,t1,t2,l3⟩:=h.op hi;have h4:=h.al.1.2.2.1;have hv:=t1 _ (Ao hk);have hal:=L0 n r k;have hgl:=hs.1;have hai:=Sv hn r k;obtain ⟨c,g⟩:=s;dsimp only at hs hgl;have er:(nth a.Ops i).Arity.toNat=r:=by omega
 unfold C8 Pc;dsimp only;rw [er,Af (by omega),tna0,ip0 (by omega),Af (by omega),e1,h.sa,Ac4 hn hn8 hr (by omega)];simp only [obs0];rw [A1b (by omega) (by rw [hgl];exact hai)];simp only [obs0];rw [Ahc _ _ (by have:=Az;rw [List.length_map];omega)];simp only [obs0];show (if decide ((-1:Int)∈Lq n g r k)=true then _ else _)=_;by_cases hop:(-1:Int)∈Lq n g r k
 ·rw [ip0 hop,dtr0 hop,ip0 rfl,Af (by omega)];rfl
 ·have hin:=Amv hn hs r k hop;obtain ⟨p,hp1,hp2,_⟩:=Mr hm8 (xs:=Lq n g r k) (by rw [Rj];omega) hin;rw [Rj] at hp2;rw [in0 hop,dfa0 hop,in0 (by simp),Af (by omega),Af (by omega),tna0];have ev:Gu b (i:Int) ((L8 n r k).map λx=>nth g x.toNat)=some (nth (nth b.Ops i).Table p):=by
   have:=A25 hm8 h.sb hib (xs:=Lq n g r k) (by rw [Rj];omega) hin (by rw [Rj];exact l2);rw [hp1,tna0] at this;exact this
  rw [ev,hp1,tna0];simp only [obs0];have hw:=t2 _ (Ao (show p<(nth b.Ops i).Table.length by omega));rw [Af (by omega)];by_cases h0:0<=nth g (nth (nth a.Ops i).Table k).toNat
  ·rw [ip0 (show nth g (nth (nth a.Ops i).Table k).toNat>=0 from h0),ip0 h0,Af (by omega)];by_cases hne:nth g (nth (nth a.Ops i).Table k).toNat=nth (nth b.Ops i).Table p
   ·rw [in0 (by simpa using hne),ip0 hne];simp only [obs0];rw [Af (by omega),in0 (by omega),Af (by omega)];rfl
   ·rw [ip0 hne,in0 hne];rfl
  ·rw [in0 (show ¬nth g (nth (nth a.Ops i).Table k).toNat>=0 from h0),in0 h0];simp only [obs0];rw [Af (by omega),ip0 (by omega),Af (by omega),Af (by omega)];rfl
theorem Axh (hn:0<n) {g:List Int} (hg:okF n m g) : ∀(r k:Nat),r<=3->k<=1048576->Aj (Dd n g) ((k:Int),(r:Int))=some (if (-1:Int)∈Lq n g r k then .inl () else .inr ()):=by
 intro r
 induction r with
 | zero=> intro k _ _;refine Cn ?_;unfold Dd;dsimp only;rw [in0 (by omega),in0 (by simp [Lq,L8])]
 | succ r ih=>
   intro k hr hk;have hkn:=Nat.mod_lt k hn;have hd:k/n<=k:=Nat.div_le_self k n;have hl:=hg.1;have hv:=hg.2 _ (Ao (show k%n<g.length by omega));have c1:(k:Int).tdiv (n:Int)=((k/n:Nat):Int):=rfl;have c2:(k:Int).tmod (n:Int)=((k%n:Nat):Int):=rfl;rw [As9];by_cases h0:nth g (k%n)<0
   ·have:nth g (k%n) = -1:=by omega
    rw [ip0 (by rw [List.mem_append,List.mem_singleton];exact .inr this.symm)];refine Cn ?_;unfold Dd;dsimp only;rw [c2,tna0,ip0 (by omega),Af (by omega),Af (by omega),ip0 h0]
   ·have step:Dd n g ((k:Int),((r+1:Nat):Int))=some (.inl (((k/n:Nat):Int),(r:Int))):=by
     unfold Dd;dsimp only;rw [c1,c2,tna0];generalize k/n=kd at hd;generalize k%n=km at hkn h0;rw [ip0 (by omega),Af (by omega),Af (by omega),in0 h0,Af (by omega),Af (by omega),show ((r+1:Nat):Int)-1=(r:Int) by omega]
    rw [F2 step,ih (k/n) (by omega) (by omega)];by_cases hx:(-1:Int)∈Lq n g r (k/n)
    ·rw [ip0 hx,ip0 (by rw [List.mem_append];exact .inl hx)]
    ·rw [in0 hx,in0 (by rw [List.mem_append,List.mem_singleton];rintro (h1 | h1);exact hx h1;omega)]
theorem A0r (hn:0<n) {g:List Int} (hg:okF n m g) {r k:Nat} (hr:r<=3) (hk:k<=1048576):Jh k r n g=some (decide ((-1:Int)∉Lq n g r k)):=by
 unfold Jh;rw [Axh hn hg r k hr hk];by_cases hx:(-1:Int)∈Lq n g r k
 ·rw [ip0 hx,dfa0 (by simpa using hx)];rfl
 ·rw [in0 hx,dtr0 hx];rfl
theorem A4m (hn:0<n) (hm:m<=8) (ha:a.Size=n) (hb:b.Size=m) {f:List Int} (hf:f.length=n) {ar:Nat} (har:ar<=3) : ∀(r j s acc k:Nat),Bm (Lq n f r k) m->j+r=ar->s*8^r<=512->acc<=4096*j->k<=1048576 ->
  Aj (Bj ar a b f) ((j:Int),(s:Int),(acc:Int),(k:Int))=some ((acc:Int)+(s:Int)*It n m f r k):=by
 intro r
 induction r with
 | zero=> intro j s acc k _ hj _ _ _;refine Cn ?_;unfold Bj;dsimp only;rw [in0 (by omega)];simp [It]
 | succ r ih=>
   intro j s acc k hfx hj hs hacc hk;rw [As9] at hfx;have hkn:=Nat.mod_lt k hn;have hv:=hfx (nth f (k%n)) (by simp);obtain ⟨c,hc⟩:=Int.eq_ofNat_of_zero_le hv.1;have hd:k/n<=k:=Nat.div_le_self k n;have hp:0<8^r:=Nat.pow_pos (by omega);rw [Nat.pow_succ] at hs;have hs8:s*8<=512:=by have:s*8*1<=s*8*8^r:=Nat.mul_le_mul_left _ hp;rw [Nat.mul_assoc,Nat.mul_assoc,Nat.mul_comm 8 (8^r)] at this;omega
   have hsm:s*m<=s*8:=Nat.mul_le_mul_left _ hm;have hcs:c*s<=8*64:=Nat.mul_le_mul (by omega) (by omega);have c1:(k:Int).tdiv (n:Int)=((k/n:Nat):Int):=rfl;have c2:(k:Int).tmod (n:Int)=((k%n:Nat):Int):=rfl;have step:Bj ar a b f ((j:Int),(s:Int),(acc:Int),(k:Int))=some (.inl (((j+1:Nat):Int),((s*m:Nat):Int),((acc+c*s:Nat):Int),((k/n:Nat):Int))):=by
    unfold Bj;dsimp only;rw [ha,hb,c1,c2,tna0,hc];have e1:(c:Int)*(s:Int)=((c*s:Nat):Int):=by push_cast;rfl
    have e2:(s:Int)*(m:Int)=((s*m:Nat):Int):=by push_cast;rfl
    rw [e1,e2];generalize k/n=kd at hd;generalize k%n=km at hkn;generalize c*s=cs at hcs;generalize s*m=sm at hsm;rw [ip0 (by omega)];repeat rw [Af (by omega)]
    rfl
   have hb2:s*m*8^r<=512:=by have h1:s*m*8^r<=s*8*8^r:=Nat.mul_le_mul_right _ hsm;rw [Nat.mul_assoc s 8,Nat.mul_comm 8 (8^r)] at h1;omega
   rw [F2 step,ih (j+1) (s*m) (acc+c*s) (k/n) (λz hz=>hfx z (List.mem_append_left _ hz)) (by omega) hb2 (by omega) (by omega)];simp only [It,hc];congr 1;push_cast;exact Atl _ _ _ _ _
theorem A6p (hn:0<n) (hm:m<=8) (ha:a.Size=n) (hb:b.Size=m) {f:List Int} (hf:f.length=n) {ar:Nat} (har:ar<=3) {k:Nat} (hk:k<=1048576) (hfx:Bm (Lq n f ar k) m) :
  Do k ar a b f=some (Uc m (Lq n f ar k)):=by
 unfold Do;have h8:1*8^ar<=512:=by rw [Nat.one_mul];exact Acw (by omega) har
 have key:=A4m hn hm ha hb hf har ar 0 1 0 k hfx (by omega) h8 (by omega) hk;have key':Aj (Bj ar a b f) (0,1,0,(k:Int))=some (It n m f ar k):=by simpa using key
 rw [key'];unfold Lq;rw [Ud];rfl
theorem At2 (h:Pair a b n m) {i k:Nat} (hi:i<a.Ops.length) (hk:k<(nth a.Ops i).Table.length) {s:Bool×List Int} (hs:okF n m s.2) :
  C0 a b (i:Int) ((k:Int),s)=match Pc a b n m i k s with | some s'=>some (.inl (((k+1:Nat):Int),s')) | none=>some (.inr (.inl s.2)):=by
 obtain ⟨hn,hn8,hm,hm8⟩:=h.pos;obtain ⟨hib,r,hr,e1,l1,l2,t1,t2,l3⟩:=h.op hi;have hv:=t1 _ (Ao hk);have hgl:=hs.1;obtain ⟨c,g⟩:=s;dsimp only at hs hgl;have er:(nth a.Ops i).Arity.toNat=r:=by omega
 unfold C0 Pc;dsimp only;rw [er,tna0,ip0 (by omega),Af (by omega),e1,h.sa,A0r hn hs hr (by omega)];simp only [obs0];by_cases hop:(-1:Int)∈Lq n g r k
 ·rw [ip0 hop,dfa0 (by simpa using hop),in0 (by simp),Af (by omega)];rfl
 ·have hin:=Amv hn hs r k hop;obtain ⟨p,hp1,hp2,_⟩:=Mr hm8 (xs:=Lq n g r k) (by rw [Rj];omega) hin;rw [Rj] at hp2;rw [in0 hop,dtr0 hop,ip0 rfl,Af (by omega),A6p hn hm8 h.sa h.sb hgl hr (by omega) hin,hp1];simp only [obs0];rw [tna0,Af (by omega),tna0,Af (by omega)];by_cases h0:0<=nth g (nth (nth a.Ops i).Table k).toNat
  ·rw [in0 (show ¬nth g (nth (nth a.Ops i).Table k).toNat<0 by omega),ip0 h0,Af (by omega)];by_cases hne:nth g (nth (nth a.Ops i).Table k).toNat=nth (nth b.Ops i).Table p
   ·rw [in0 (by simpa using hne),ip0 hne,Af (by omega)];rfl
   ·rw [ip0 hne,in0 hne]
  ·rw [ip0 (show nth g (nth (nth a.Ops i).Table k).toNat<0 by omega),in0 h0,Af (by omega),Af (by omega)];rfl
theorem A21 (h:Pair a b n m) {i:Nat} (hi:i<a.Ops.length) {s:Bool×List Int} (hs:okF n m s.2) :
  (∃s',opZ a b n m i s=some s'/\Aj (C8 a b (i:Int)) (0,s)=some (.inr s'))\/(opZ a b n m i s=none/\Aj (C8 a b (i:Int)) (0,s)=some (.inl ())):=by
 rcases Ag6 (body:=C8 a b (i:Int)) (step:=Pc a b n m i) (λt=>okF n m t.2) id (nth a.Ops i).Table.length (λk s s' hk hs e=>⟨(Acj h hi hk hs e).1,by rw [Asy h hi hk hs,e]⟩)
  (λk s hk hs e=>⟨(),by rw [Asy h hi hk hs,e]⟩) (λs hs=>by unfold C8;dsimp only;rw [Af (by omega),tna0,in0 (by omega)];rfl) (nth a.Ops i).Table.length 0 s (by omega) hs with ⟨s',h1,_,h3⟩ | ⟨h1,e,h3⟩
 ·exact .inl ⟨s',h1,h3⟩
 ·exact .inr ⟨h1,h3⟩
theorem A2h (h:Pair a b n m) {i:Nat} (hi:i<a.Ops.length) {s:Bool×List Int} (hs:okF n m s.2) :
  (∃s',opZ a b n m i s=some s'/\Aj (C0 a b (i:Int)) (0,s)=some (.inr s'))\/(opZ a b n m i s=none /\ ∃e,Aj (C0 a b (i:Int)) (0,s)=some (.inl e)):=by
 rcases Ag6 (body:=C0 a b (i:Int)) (step:=Pc a b n m i) (λt=>okF n m t.2) id (nth a.Ops i).Table.length (λk s s' hk hs e=>⟨(Acj h hi hk hs e).1,by rw [At2 h hi hk hs,e]⟩)
  (λk s hk hs e=>⟨s.2,by rw [At2 h hi hk hs,e]⟩) (λs hs=>by unfold C0;dsimp only;rw [tna0,in0 (by omega)];rfl) (nth a.Ops i).Table.length 0 s (by omega) hs with ⟨s',h1,_,h3⟩ | ⟨h1,e,h3⟩
 ·exact .inl ⟨s',h1,h3⟩
 ·exact .inr ⟨h1,e,h3⟩
theorem Aw9 (h:Pair a b n m) {g:List Int} (hs:okF n m g) :
  (∃s',Ac1 a b n m g=some s'/\Aj (Da a b) (0,false,g)=some (.inr s'))\/(Ac1 a b n m g=none/\Aj (Da a b) (0,false,g)=some (.inl ())):=by
 have h4:=h.al.1.2.2.1;rcases Ag6 (body:=Da a b) (step:=opZ a b n m) (λt=>okF n m t.2) id a.Ops.length (λi s s' hi hs e=>⟨(Aur h hi hs e).1,by
   rcases A21 h hi hs with ⟨s2,e2,e3⟩ | ⟨e2,_⟩
   ·rw [e] at e2;cases e2;unfold Da;obtain ⟨c,g⟩:=s;dsimp only;rw [ip0 (by omega),e3];simp only [obs0];rw [Af (by omega)];rfl
   ·rw [e] at e2;cases e2⟩)
  (λi s hi hs e=>⟨(),by
   rcases A21 h hi hs with ⟨s2,e2,e3⟩ | ⟨_,e3⟩
   ·rw [e] at e2;cases e2
   ·unfold Da;obtain ⟨c,g⟩:=s;dsimp only;rw [ip0 (by omega),e3];rfl⟩) (λs hs=>by
   unfold Da;dsimp only;rw [in0 (by omega)];rfl) a.Ops.length 0 (false,g) (by omega) hs with ⟨s',h1,_,h3⟩ | ⟨h1,e,h3⟩
 ·exact .inl ⟨s',h1,h3⟩
 ·exact .inr ⟨h1,h3⟩
theorem Ax5 (h:Pair a b n m) {g:List Int} (hs:okF n m g) :
  (∃s',Ac1 a b n m g=some s'/\Aj (Cy a b) (0,false,g)=some (.inr s'))\/(Ac1 a b n m g=none /\ ∃e,Aj (Cy a b) (0,false,g)=some (.inl e)):=by
 have h4:=h.al.1.2.2.1;rcases Ag6 (body:=Cy a b) (step:=opZ a b n m) (λt=>okF n m t.2) id a.Ops.length (λi s s' hi hs e=>⟨(Aur h hi hs e).1,by
   rcases A2h h hi hs with ⟨s2,e2,e3⟩ | ⟨e2,_⟩
   ·rw [e] at e2;cases e2;unfold Cy;obtain ⟨c,g⟩:=s;dsimp only;rw [ip0 (by omega),Af (by omega),e3];simp only [obs0];rw [Af (by omega)];rfl
   ·rw [e] at e2;cases e2⟩)
  (λi s hi hs e=>by
   rcases A2h h hi hs with ⟨s2,e2,e3⟩ | ⟨_,q,e3⟩
   ·rw [e] at e2;cases e2
   ·refine ⟨q,?_⟩;unfold Cy;obtain ⟨c,g⟩:=s;dsimp only;rw [ip0 (by omega),Af (by omega),e3];rfl) (λs hs=>by
   unfold Cy;dsimp only;rw [in0 (by omega)];rfl) a.Ops.length 0 (false,g) (by omega) hs with ⟨s',h1,_,h3⟩ | ⟨h1,e,h3⟩
 ·exact .inl ⟨s',h1,h3⟩
 ·exact .inr ⟨h1,e,h3⟩
theorem Azj (h:Pair a b n m) : ∀k g,Cf g<k->okF n m g ->
  Aj (Dp a b) (true,g)=match Pz a b n m k g with | some g'=>some (.inr g') | none=>some (.inl ()):=by
 intro k
 induction k with
 | zero=>intro g hk;omega
 | succ k ih=>
   intro g hk hg;simp only [Pz];rcases Aw9 h hg with ⟨⟨c,g1⟩,e1,e2⟩ | ⟨e1,e2⟩
   ·rw [e1];have step:Dp a b (true,g)=some (.inl (c,g1)):=by
     unfold Dp;dsimp only;rw [ip0 rfl,e2];rfl
    rw [F2 step];obtain ⟨k1,k2,k3,k4⟩:=Ajk h hg e1;dsimp only;by_cases hc:c=true
    ·subst hc;rcases k4 with k4 | k4
     ·cases k4
     ·rw [ip0 rfl];exact ih g1 (by have:=k4.2;simp only at this;omega) k1
    ·have hc':c=false:=by simpa using hc
     subst hc';rw [in0 (by simp)];refine Cn ?_;unfold Dp;rfl
   ·rw [e1];refine Cn ?_;unfold Dp;dsimp only;rw [ip0 rfl,e2];rfl
theorem Ay9 (h:Pair a b n m) : ∀k g,Cf g<k->okF n m g ->
  (∃g',Pz a b n m k g=some g'/\Aj (Cw a b) (true,g)=some (.inr g'))\/(Pz a b n m k g=none /\ ∃e,Aj (Cw a b) (true,g)=some (.inl e)):=by
 intro k
 induction k with
 | zero=>intro g hk;omega
 | succ k ih=>
   intro g hk hg;simp only [Pz];rcases Ax5 h hg with ⟨⟨c,g1⟩,e1,e2⟩ | ⟨e1,q,e2⟩
   ·rw [e1];have step:Cw a b (true,g)=some (.inl (c,g1)):=by
     unfold Cw;dsimp only;rw [ip0 rfl,e2];rfl
    rw [F2 step];obtain ⟨k1,k2,k3,k4⟩:=Ajk h hg e1;dsimp only;by_cases hc:c=true
    ·subst hc;rcases k4 with k4 | k4
     ·cases k4
     ·rw [ip0 rfl];exact ih g1 (by have:=k4.2;simp only at this;omega) k1
    ·have hc':c=false:=by simpa using hc
     subst hc';rw [in0 (by simp)];refine .inl ⟨g1,rfl,Cn ?_⟩;unfold Cw;rfl
   ·rw [e1];refine .inr ⟨rfl,q,Cn ?_⟩;unfold Cw;dsimp only;rw [ip0 rfl,e2];rfl
theorem Ajt (h:Pair a b n m) {g:List Int} (hg:okF n m g):Gv a b g=some (match Wo a b n m g with | some g'=>(g',true) | none=>([],false)):=by obtain ⟨hn,hn8,hm,hm8⟩:=h.pos;have hL:=Az;unfold Gv;rw [A1k (by have:=hg.1;omega)];simp only [obs0];rw [Azj h (Cf g+1) g (Nat.lt_succ_self _) hg];show _=some (match Pz a b n m (Cf g+1) g with | some g'=>(g',true) | none=>([],false));cases Pz a b n m (Cf g+1) g<;>rfl
theorem Az2 (h:Pair a b n m) {g:List Int} (hg:okF n m g):(∃g',Wo a b n m g=some g'/\Hd a b g=some (true,g'))\/(Wo a b n m g=none /\ ∃e,Hd a b g=some (false,e)):=by
 unfold Hd;rcases Ay9 h (Cf g+1) g (Nat.lt_succ_self _) hg with ⟨g',e1,e2⟩ | ⟨e1,q,e2⟩
 ·exact .inl ⟨g',e1,by rw [e2];rfl⟩
 ·exact .inr ⟨e1,q,by rw [e2];rfl⟩
end
theorem Apl {xs:List Int} (h:xs.length<=LIM):Fj xs=some xs:=by unfold Fj;rw [Af (by show 0+xs.length<=_;omega)];rfl
def L7 (f:List Int):Prop := ∀i,i<f.length->0<=nth f i->nth f i∉f.take i
theorem Aio {f:List Int} (hl:f.length<=1048576):Hv f=some (decide (L7 f)):=by
 have hL:=Az;unfold Hv;have this:=Fe (body:=E7 f) (λi=>(i:Int)) f.length (λi=>0<=nth f i/\nth f i∈f.take i) () () (λi hi hb=>by
  unfold E7;rw [ip0 (by omega),Af (by omega),tna0];by_cases h0:nth f i>=0
  ·rw [ip0 h0,Af (by omega),Af (by omega),Ahc _ _ (by simp;omega)];simp only [obs0,Int.toNat_zero,List.drop_zero,Nat.sub_zero];rw [dfa0 (λhc=>hb ⟨h0,hc⟩),in0 (by simp),Af (by omega)];rfl
  ·rw [in0 h0,Af (by omega)];rfl) (λi hi hb=>by
  unfold E7;rw [ip0 (by omega),Af (by omega),tna0,ip0 hb.1,Af (by omega),Af (by omega),Ahc _ _ (by simp;omega)];simp only [obs0,Int.toNat_zero,List.drop_zero,Nat.sub_zero];rw [dtr0 hb.2,ip0 rfl]) (by
  unfold E7;rw [in0 (by omega)]) 0 (by omega)
 refine (G9 this false true).trans ?_;by_cases hx:L7 f
 ·rw [dtr0 hx,in0];rintro ⟨i,_,hi,h0,hm⟩;exact hx i hi h0 hm
 ·rw [dfa0 hx,ip0];refine Classical.byContradiction λhc=>hx λi hi h0 hm=>hc ⟨i,by omega,hi,h0,hm⟩
theorem A36 {m:Nat} (hm:m<=100) {f:List Int} (hl:f.length<=1048576):Js (m:Int) f=some (decide (∀x,x<m->(x:Int)∈f)):=by
 have hL:=Az;unfold Js;have this:=Fe (body:=Ey (m:Int) f) (λi=>(i:Int)) m (λi=>(i:Int)∉f) () () (λi hi hb=>by
  unfold Ey;rw [ip0 (by omega),Ahc _ _ (by omega)];simp only [obs0];rw [dtr0 (Classical.not_not.1 hb),ip0 rfl,Af (by omega)];rfl) (λi hi hb=>by
  unfold Ey;rw [ip0 (by omega),Ahc _ _ (by omega)];simp only [obs0];rw [dfa0 hb,in0 (by simp)]) (by
  unfold Ey;rw [in0 (by omega)]) 0 (by omega)
 refine (G9 this false true).trans ?_;by_cases hx : ∀x,x<m->(x:Int)∈f
 ·rw [dtr0 hx,in0];rintro ⟨i,_,hi,hm⟩;exact hm (hx i hi)
 ·rw [dfa0 hx,ip0];refine Classical.byContradiction λhc=>hx λi hi=>Classical.byContradiction λhm=>hc ⟨i,by omega,hi,hm⟩
def B6:List Int->Nat
 | []=>0
 | x::r=>if x<0 then 0 else B6 r+1
theorem Rr : ∀f:List Int,B6 f<=f.length
 | []=>Nat.le_refl _
 | x::r=>by have:=Rr r;simp only [B6,List.length_cons];split<;>omega
theorem Adl : ∀(f:List Int) (j:Nat),j<B6 f->0<=nth f j
 | [],j,h=>by simp [B6] at h
 | x::r,j,h=>by
   simp only [B6] at h;split at h
   ·omega
   ·cases j with
    | zero=>simp only [nth,List.getD_cons_zero];omega
    | succ j=> have:=Adl r j (by omega);simpa [nth] using this
theorem Q2 : ∀(f:List Int),B6 f<f.length->nth f (B6 f)<0
 | [],h=>by simp [B6] at h
 | x::r,h=>by
   simp only [B6] at h ⊢;split
   ·rename_i hx;simpa [nth] using hx
   ·rename_i hx;rw [in0 hx] at h;have:=Q2 r (by simpa using h);simpa [nth] using this
theorem Aot {f:List Int}:Cf f=0 ↔ ∀x∈f,0<=x:=by
 unfold Cf;rw [List.countP_eq_zero];constructor
 ·intro h x hx;have:=h x hx;simpa using this
 ·intro h x hx;have:=h x hx;simpa using this
theorem Afw {f:List Int}:B6 f=f.length↔Cf f=0:=by
 rw [Aot];constructor
 ·intro h x hx;obtain ⟨i,hi,rfl⟩:=H6.1 hx;exact Adl f i (by omega)
 ·intro h;rcases Nat.lt_or_ge (B6 f) f.length with h1 | h1
  ·have:=Q2 f h1;have:=h _ (Ao h1);omega
  ·have:=Rr f;omega
theorem A1o {s:ShomSearch} {f:List Int} (hl:f.length<=1048576):Aj (Cc s f) 0=some (B6 f:Int):=by
 have h1:=Rr f;refine Bp (body:=Cc s f) (λi=>(i:Int)) (B6 f) _ (λi hi=> ?_) ?_
 ·have:=Adl f i hi;unfold Cc;rw [ip0 (by omega),Af (by omega),tna0,ip0 this,Af (by omega)];rfl
 ·unfold Cc;rcases Nat.lt_or_ge (B6 f) f.length with h2 | h2
  ·have:=Q2 f h2;rw [ip0 (by omega),Af (by omega),tna0,in0 (by omega)]
  ·rw [in0 (by omega)]
theorem Azz {s:Sl7Search} {f:List Int} (hl:f.length<=1048576):Aj (Cq s f) 0=some (B6 f:Int):=by
 have h1:=Rr f;refine Bp (body:=Cq s f) (λi=>(i:Int)) (B6 f) _ (λi hi=> ?_) ?_
 ·have:=Adl f i hi;unfold Cq;rw [ip0 (by omega),Af (by omega),tna0,ip0 this,Af (by omega)];rfl
 ·unfold Cq;rcases Nat.lt_or_ge (B6 f) f.length with h2 | h2
  ·have:=Q2 f h2;rw [ip0 (by omega),Af (by omega),tna0,in0 (by omega)]
  ·rw [in0 (by omega)]
abbrev SS:=Nat×List (List Int)
def Dh (M:Nat) (s:SS):Prop:=M<=s.2.length\/5000<s.1
noncomputable def Il (rec_:SS->List Int->SS) (cl:List Int->Option (List Int)) (M:Nat) (f:List Int) (q:Nat):Nat->Nat->SS->SS
 | 0,_,s=>s
 | c+1,y,s=>if Dh M s then s else
   if s.1+1>5000 then (s.1+1,s.2) else
   match cl (f.set q (y:Int)) with
   | some g=>Il rec_ cl M f q c (y+1) (rec_ (s.1+1,s.2) g)
   | none=>Il rec_ cl M f q c (y+1) (s.1+1,s.2)
noncomputable def I0 (cl:List Int->Option (List Int)) (acc:List Int->Prop) (m M:Nat):Nat->SS->List Int->SS
 | 0,s,_=>s
 | k+1,s,f=>if B6 f=f.length then (if acc f then (s.1,s.2++[f]) else s)
   else Il (I0 cl acc m M k) cl M f (B6 f) m 0 s
theorem Aoa {rec_:SS->List Int->SS} {cl:List Int->Option (List Int)} {M:Nat} {f:List Int} {q c y:Nat} {s:SS} (h:Dh M s):Il rec_ cl M f q c y s=s:=by
 cases c with
 | zero=>rfl
 | succ c=>simp only [Il];rw [ip0 h]
theorem A7s {cl:List Int->Option (List Int)} {acc:List Int->Prop} {m M:Nat} : ∀k s f,¬Dh M s->(I0 cl acc m M k s f).2.length<=M/\(I0 cl acc m M k s f).1<=5001/\s.1<=(I0 cl acc m M k s f).1:=by
 intro k
 induction k with
 | zero=>intro s f h;unfold Dh at h;simp only [I0];omega
 | succ k ih=>
   intro s f h;simp only [I0];split
   ·unfold Dh at h;split
    ·simp only [List.length_append,List.length_singleton];omega
    ·omega
   ·have key : ∀c y (s:SS),s.2.length<=M->s.1<=5001->(Il (I0 cl acc m M k) cl M f (B6 f) c y s).2.length<=M/\(Il (I0 cl acc m M k) cl M f (B6 f) c y s).1<=5001/\s.1<=(Il (I0 cl acc m M k) cl M f (B6 f) c y s).1:=by
     intro c
     induction c with
     | zero=>intro y s h1 h2;exact ⟨h1,h2,Nat.le_refl _⟩
     | succ c ihc=>
       intro y s h1 h2;simp only [Il];split
       ·exact ⟨h1,h2,Nat.le_refl _⟩
       ·rename_i hd;unfold Dh at hd;split
        ·simp only;omega
        ·rename_i h5;split
         ·rename_i g _;obtain ⟨j1,j2,j3⟩:=ih (s.1+1,s.2) g (by unfold Dh;simp only;omega);obtain ⟨i1,i2,i3⟩:=ihc (y+1) _ j1 j2;simp only at j3;exact ⟨i1,i2,by omega⟩
         ·obtain ⟨i1,i2,i3⟩:=ihc (y+1) (s.1+1,s.2) h1 (by simp only;omega);simp only at i3;exact ⟨i1,i2,by omega⟩
    unfold Dh at h;exact key m 0 s (by omega) (by omega)
section
variable {a b:SAlgebra} {n m:Nat}
noncomputable def Bi (a b:SAlgebra) (n m:Nat) (emb:Bool) (g:List Int):Option (List Int):=match Wo a b n m g with
 | some g'=>if emb=true/\¬L7 g' then none else some g'
 | none=>none
theorem Pt (h:Pair a b n m) {emb:Bool} {g g':List Int} (hg:okF n m g) (e:Bi a b n m emb g=some g'):okF n m g'/\ext g g'/\Cf g'<=Cf g/\(Cf g'=0->Oo a b g')/\(emb=true->L7 g'):=by
 unfold Bi at e;split at e
 ·rename_i g1 e1;split at e
  ·cases e
  ·rename_i h1;cases e;obtain ⟨k1,k2,k3,k4⟩:=S3 h hg e1;exact ⟨k1,k2,k3,k4,λhe=>Classical.byContradiction λhc=>h1 ⟨he,hc⟩⟩
 ·cases e
theorem A35 {g f:List Int} (hl:g.length=f.length) (he:ext g f) (hf:L7 f):L7 g:=by
 intro i hi h0 hm;obtain ⟨j,hj,e⟩:=H6.1 hm;have hji:j<i:=by simp at hj;omega
 have ej:nth (g.take i) j=nth g j:=by rw [Cz hj,Cz (by omega),List.getElem_take]
 rw [ej] at e;refine hf i (by omega) (by rw [he i hi h0];exact h0) (H6.2 ⟨j,by simp;omega,?_⟩);have ef:nth (f.take i) j=nth f j:=by rw [Cz (by simp;omega),Cz (by omega),List.getElem_take]
 rw [ef,he i hi h0,<-e,he j (by omega) (by omega)]
theorem Anc (h:Pair a b n m) {emb:Bool} {f g:List Int} (hg:okF n m g) (hf:Oo a b f) (hi:emb=true->L7 f) (he:ext g f) : ∃g',Bi a b n m emb g=some g'/\ext g' f:=by obtain ⟨g',e1,h1⟩:=A0c h hg hf he;obtain ⟨k1,_⟩:=S3 h hg e1;refine ⟨g',?_,h1⟩;unfold Bi;rw [e1];dsimp only;rw [in0];rintro ⟨he2,hc⟩;have hl:(f.length:Int)=a.Size:=hf.2.1.1;have:=h.sa;exact hc (A35 (by have:=k1.1;omega) h1 (hi he2))
def Dr (a b:SAlgebra) (emb onto:Bool) (M:Nat) (s:SS):Sl7Search:={ a:=a,b:=b,into:=emb,onto:=onto,most:=(M:Int),tries:=(s.1:Int),found:=s.2 }
def D2 (m:Nat) (onto:Bool) (f:List Int):Prop:=onto=true -> ∀x,x<m->(x:Int)∈f
theorem A0s (h:Pair a b n m) (emb onto:Bool) {M:Nat} (hM:M<=1000) : ∀(k:Nat) (s:SS) (f:List Int),Cf f<k->okF n m f->¬Dh M s ->
  Au k (Dr a b emb onto M s) f=some ((),Dr a b emb onto M (I0 (Bi a b n m emb) (D2 m onto) m M k s f)):=by
 obtain ⟨hn,hn8,hm,hm8⟩:=h.pos;have hL:=Az;intro k
 induction k with
 | zero=>intro s f hk;omega
 | succ k ih=>
   intro s f hk hf hs;show Ck (Au k) _ f=_;unfold Ck;have hfl:=hf.1;have hs2:s.2.length<M/\s.1<=5000:=by unfold Dh at hs;omega
   rw [Azz (by omega)];simp only [obs0,I0];by_cases hq:B6 f=f.length
   ·rw [ip0 (by omega),ip0 hq];have e1:(if (Dr a b emb onto M s).onto=true then (Js (Dr a b emb onto M s).b.Size f).bind λr8=>some r8 else some true:Option Bool)=some (decide (D2 m onto f)):=by
     by_cases ho:onto=true
     ·rw [ip0 (show (Dr a b emb onto M s).onto=true from ho),show (Dr a b emb onto M s).b.Size=(m:Int) from h.sb,A36 (by omega) (by omega)];simp only [obs0,D2];exact congrArg some (decide_eq_decide.2 ⟨λhx _=>hx,λhx=>hx ho⟩)
     ·rw [in0 (show ¬(Dr a b emb onto M s).onto=true from ho)];have:D2 m onto f:=λhc=>absurd hc ho
      rw [dtr0 this]
    rw [e1];simp only [obs0];by_cases ha:D2 m onto f
    ·rw [dtr0 ha,ip0 rfl,ip0 ha,Af (by show s.2.length+1<=_;omega)];rfl
    ·rw [dfa0 ha,in0 (by simp),in0 ha]
   ·rw [in0 (by omega),in0 hq];have hq4:B6 f<f.length:=by have:=Rr f;omega
    have hneg:=Q2 f hq4;have key : ∀c y (s:SS),y+c=m->s.2.length<=M->s.1<=5001 -> ∃t,Aj (A4 (Au k) f (B6 f:Int)) ((y:Int),Dr a b emb onto M s)=some t /\
      (t = .inl (Dr a b emb onto M (Il (I0 (Bi a b n m emb) (D2 m onto) m M k) (Bi a b n m emb) M f (B6 f) c y s))\/t = .inr (Dr a b emb onto M (Il (I0 (Bi a b n m emb) (D2 m onto) m M k) (Bi a b n m emb) M f (B6 f) c y s))):=by
     intro c
     induction c with
     | zero=> intro y s hy h1 h2;refine ⟨_,Cn ?_,.inr rfl⟩;unfold A4;dsimp only;rw [show (Dr a b emb onto M s).b.Size=(m:Int) from h.sb,in0 (by omega)];rfl
     | succ c ihc=>
       intro y s hy h1 h2;simp only [Il];by_cases hd:Dh M s
       ·rw [ip0 hd];refine ⟨_,Cn ?_,.inr rfl⟩;unfold A4;dsimp only;rw [show (Dr a b emb onto M s).b.Size=(m:Int) from h.sb,ip0 (by omega)];by_cases h3:s.2.length<M
        ·rw [ip0 (show ((Dr a b emb onto M s).found.length:Int)<(Dr a b emb onto M s).most by show (s.2.length:Int)<(M:Int);omega),in0 (show ¬(Dr a b emb onto M s).tries<=5000 by show ¬(s.1:Int)<=5000;unfold Dh at hd;omega)];rfl
        ·rw [in0 (show ¬((Dr a b emb onto M s).found.length:Int)<(Dr a b emb onto M s).most by show ¬(s.2.length:Int)<(M:Int);omega)];rfl
       ·rw [in0 hd];have hd2:s.2.length<M/\s.1<=5000:=by unfold Dh at hd;omega
        have head : ∀(K:Unit ⊕ Unit->Option ((Int×Sl7Search) ⊕ (Sl7Search ⊕ Sl7Search))),((if (y:Int)<(Dr a b emb onto M s).b.Size then if ((Dr a b emb onto M s).found.length:Int)<(Dr a b emb onto M s).most then if (Dr a b emb onto M s).tries<=5000 then some (.inl ()) else some (.inr ()) else some (.inr ()) else some (.inr ()):Option (Unit ⊕ Unit))).bind K=K (.inl ()):=by intro K;rw [show (Dr a b emb onto M s).b.Size=(m:Int) from h.sb,ip0 (by omega),ip0 (show ((Dr a b emb onto M s).found.length:Int)<(Dr a b emb onto M s).most by show (s.2.length:Int)<(M:Int);omega),ip0 (show (Dr a b emb onto M s).tries<=5000 by show (s.1:Int)<=5000;omega)];rfl
        by_cases h5:s.1+1>5000
        ·rw [ip0 h5];refine ⟨_,Cn ?_,.inl rfl⟩;unfold A4;dsimp only;rw [head];dsimp only;rw [Af (by show InI ((s.1:Int)+1);unfold InI;omega),ip0 (show (Dr a b emb onto M s).tries+1>5000 by show (s.1:Int)+1>5000;omega)];rfl
        ·rw [in0 h5];have hof:okF n m (f.set (B6 f) (y:Int)):=hf.set (by omega);have hop:=Xa hq4 hneg (y:=(y:Int)) (by omega);have cont : ∀s',(A4 (Au k) f (B6 f:Int)) ((y:Int),Dr a b emb onto M s)=some (.inl (((y+1:Nat):Int),Dr a b emb onto M s'))->s'.2.length<=M->s'.1<=5001 ->
           ∃t,Aj (A4 (Au k) f (B6 f:Int)) ((y:Int),Dr a b emb onto M s)=some t /\
           (t = .inl (Dr a b emb onto M (Il (I0 (Bi a b n m emb) (D2 m onto) m M k) (Bi a b n m emb) M f (B6 f) c (y+1) s'))\/t = .inr (Dr a b emb onto M (Il (I0 (Bi a b n m emb) (D2 m onto) m M k) (Bi a b n m emb) M f (B6 f) c (y+1) s'))):=by
          intro s' e k1 k2;rw [F2 e];exact ihc (y+1) s' (by omega) k1 k2
         have step : ∀X,(A4 (Au k) f (B6 f:Int)) ((y:Int),Dr a b emb onto M s)=X->X=(let s1:=Dr a b emb onto M (s.1+1,s.2);(Gv a b (f.set (B6 f) (y:Int))).bind λr19=>if r19.2=true then (if emb=true then (Hv r19.1).bind λr22=>if r22=true then (Au k s1 r19.1).bind λ(r24,u25)=>ask (InI ((y:Int)+1))<|some (.inl ((y:Int)+1,u25)) else ask (InI ((y:Int)+1))<|some (.inl ((y:Int)+1,s1))
            else (Au k s1 r19.1).bind λ(r28,u29)=>ask (InI ((y:Int)+1))<|some (.inl ((y:Int)+1,u29))) else ask (InI ((y:Int)+1))<|some (.inl ((y:Int)+1,s1))):=by
          rintro X rfl;unfold A4;dsimp only;rw [head];dsimp only;rw [Af (by show InI ((s.1:Int)+1);unfold InI;omega),in0 (show ¬(Dr a b emb onto M s).tries+1>5000 by show ¬(s.1:Int)+1>5000;omega),A1k (by omega)];simp only [obs0];rw [Af (by omega),tna0];rfl
         have hI:InI ((y:Int)+1):=by unfold InI;omega
         have no:Bi a b n m emb (f.set (B6 f) (y:Int))=none->(A4 (Au k) f (B6 f:Int)) ((y:Int),Dr a b emb onto M s)=some (.inl (((y+1:Nat):Int),Dr a b emb onto M (s.1+1,s.2))):=by
          intro e;rw [step _ rfl,Ajt h hof];unfold Bi at e;cases e1:Wo a b n m (f.set (B6 f) (y:Int)) with
          | none=> simp only [obs0];rw [in0 (by simp),Af hI];rfl
          | some g=>
            rw [e1] at e;dsimp only at e;have hE:emb=true/\¬L7 g:=by
             by_cases hx:emb=true/\¬L7 g
             ·exact hx
             ·rw [in0 hx] at e;cases e
            simp only [obs0];have hg:=(S3 h hof e1).1.1;rw [ip0 trivial,ip0 hE.1,Aio (by omega),dfa0 hE.2];simp only [obs0];rw [in0 (by simp),Af hI];rfl
         have yes : ∀g,Bi a b n m emb (f.set (B6 f) (y:Int))=some g->(A4 (Au k) f (B6 f:Int)) ((y:Int),Dr a b emb onto M s)=some (.inl (((y+1:Nat):Int),Dr a b emb onto M (I0 (Bi a b n m emb) (D2 m onto) m M k (s.1+1,s.2) g))):=by
          intro g e;obtain ⟨g1,g2,g3,g4,g5⟩:=Pt h hof e;rw [step _ rfl,Ajt h hof];unfold Bi at e;cases e1:Wo a b n m (f.set (B6 f) (y:Int)) with
          | none=>rw [e1] at e;cases e
          | some g'=>
            rw [e1] at e;dsimp only at e;split at e
            ·cases e
            ·cases e;have go:=ih (s.1+1,s.2) g (by omega) g1 (by unfold Dh;simp only;omega);simp only [obs0];rw [ip0 trivial];by_cases hE:emb=true
             ·rw [ip0 hE,Aio (by have:=g1.1;omega),dtr0 (g5 hE)];simp only [obs0];rw [ip0 trivial,go];simp only [obs0];rw [Af hI];rfl
             ·rw [in0 hE,go];simp only [obs0];rw [Af hI];rfl
         cases e:Bi a b n m emb (f.set (B6 f) (y:Int)) with
         | none=>exact cont _ (no e) h1 (by simp only;omega)
         | some g=> obtain ⟨j1,j2,_⟩:=A7s (cl:=Bi a b n m emb) (acc:=D2 m onto) (m:=m) (M:=M) k (s.1+1,s.2) g (by unfold Dh;simp only;omega);exact cont _ (yes g e) j1 j2
    obtain ⟨t,e2,ht⟩:=key m 0 s (by omega) (by omega) (by omega);have e2':Aj (A4 (Au k) f (B6 f:Int)) (0,Dr a b emb onto M s)=some t:=e2;rw [e2'];simp only [obs0];rcases ht with rfl | rfl<;>rfl
end
section
variable {a b:SAlgebra} {n m:Nat}
theorem A26 (h:Pair a b n m) {s:ShomSearch} (sa:s.a=a) (sb:s.b=b) {g:List Int} (hg:okF n m g) :
  (∃g',Bi a b n m s.embed g=some g'/\Bt s g=some (true,g'))\/(Bi a b n m s.embed g=none /\ ∃e,Bt s g=some (false,e)):=by
 obtain ⟨hn,hn8,hm,hm8⟩:=h.pos;have hL:=Az;unfold Bt Bi;rw [sa,sb];rcases Az2 h hg with ⟨f,e1,e2⟩ | ⟨e1,x,e2⟩
 ·obtain ⟨k1,_⟩:=S3 h hg e1;have hfl:=k1.1;rw [e1,e2];simp only [obs0];rw [ip0 trivial];by_cases hE:s.embed=true
  ·rw [ip0 hE,Af (by rw [h.sb];omega),h.sb,tna0];have this:=Fe (body:=B7 f) (λi=>((i:Int),Mu m λz=>decide ((z:Int)∈f.take i))) f.length (λi=>0<=nth f i/\nth f i∈f.take i) () () (λi hi hb=>by
    have hv:=k1.2 _ (Ao hi);have hlen:=Is m λz=>decide ((z:Int)∈f.take i)
    unfold B7;dsimp only;rw [ip0 (by omega),Af (by omega),tna0];by_cases h0:nth f i>=0
    ·have hc:nth f i=(((nth f i).toNat:Nat):Int):=by omega
     rw [ip0 h0,Af (by omega),J8 (by omega),in0 (by rw [<-hc];simpa using λhc=>hb ⟨h0,hc⟩),ip0 h0,Af (by omega),Af (by omega),Abp (by omega)];refine congrArg (λx=>some (Sum.inl (_,x))) (Gq λz _=> ?_);rw [Dt hi];by_cases hz:z=(nth f i).toNat
     ·rw [ip0 hz];refine (dtr0 ?_).symm;rw [List.mem_append,List.mem_singleton];right;omega
     ·rw [in0 hz,decide_eq_decide,List.mem_append,List.mem_singleton];exact ⟨.inl,λh=>h.resolve_right (by omega)⟩
    ·rw [in0 h0,in0 h0,Af (by omega)];refine congrArg (λx=>some (Sum.inl (_,x))) (Gq λz _=> ?_);rw [Dt hi,decide_eq_decide,List.mem_append,List.mem_singleton];exact ⟨.inl,λh=>h.resolve_right (by omega)⟩) (λi hi hb=>by
    have hv:=k1.2 _ (Ao hi);have hlen:=Is m λz=>decide ((z:Int)∈f.take i)
    have hc:nth f i=(((nth f i).toNat:Nat):Int):=by have:=hb.1;omega
    unfold B7;dsimp only;rw [ip0 (by omega),Af (by omega),tna0,ip0 hb.1,Af (by have:=hb.1;omega),J8 (by omega),ip0 (by rw [<-hc];simpa using hb.2)]) (by
    unfold B7;dsimp only;rw [in0 (by omega)]) 0 (by omega)
   have e0:(Mu m λz=>decide ((z:Int)∈f.take 0))=List.replicate m false:=by rw [Ts];exact Gq λz _=>by simp
   simp only [e0] at this;have this':Aj (B7 f) (0,List.replicate m false)=_:=this;rw [this'];simp only [obs0];by_cases hI:L7 f
   ·left;refine ⟨f,by rw [in0 (λhc=>hc.2 hI)],?_⟩;rw [in0];rintro ⟨i,_,hi,h0,hm⟩;exact hI i hi h0 hm
   ·right;refine ⟨by rw [ip0 ⟨hE,hI⟩],f,?_⟩;rw [ip0];refine Classical.byContradiction λhc=>hI λi hi h0 hm=>hc ⟨i,by omega,hi,h0,hm⟩
  ·rw [in0 hE];exact .inl ⟨f,by rw [in0 (λhc=>hE hc.1)],rfl⟩
 ·rw [e1,e2];simp only [obs0];rw [in0 (by simp)];exact .inr ⟨trivial,x,rfl⟩
abbrev FD:=Adz
def Na (a b:SAlgebra) (emb:Bool) (rp:List (List Int)->FD) (s:SS):ShomSearch:={ a:=a,b:=b,embed:=emb,tries:=(s.1:Int),found:=rp s.2 }
def A63 (n m M:Nat) (acc:List Int->Prop) (rp:List (List Int)->FD):Prop := ∀f fs,okF n m f->Cf f=0->fs.length<M ->
 E4 f (rp fs)=some (decide (¬M<=(if acc f then fs++[f] else fs).length),rp (if acc f then fs++[f] else fs))
noncomputable def A95 (a b:SAlgebra) (emb:Bool) (rp:List (List Int)->FD) (M:Nat) (x:SS):Option (Bool×ShomSearch):=some (decide (¬Dh M x),Na a b emb rp x)
theorem A3z {M:Nat} {x:SS} (h:Dh M x):decide (¬Dh M x)=false:=dfa0 (λhc=>hc h)
theorem Az1 {M:Nat} {x:SS} (h:¬Dh M x):decide (¬Dh M x)=true:=dtr0 h
noncomputable def Ban (a b:SAlgebra) (emb:Bool) (rp:List (List Int)->FD) (M:Nat) (x:SS):ShomSearch ⊕ ShomSearch:=if Dh M x then .inl (Na a b emb rp x) else .inr (Na a b emb rp x)
theorem Aog {emb:Bool} {rp:List (List Int)->FD} {M:Nat} {x:SS} (h:Dh M x):Ban a b emb rp M x = .inl (Na a b emb rp x):=ip0 h
theorem A18 {emb:Bool} {rp:List (List Int)->FD} {M:Nat} {x:SS} (h:¬Dh M x):Ban a b emb rp M x = .inr (Na a b emb rp x):=in0 h
theorem A0i (h:Pair a b n m) (emb:Bool) {M:Nat} {acc:List Int->Prop} {rp:List (List Int)->FD} (hfc:A63 n m M acc rp) : ∀(k:Nat) (s:SS) (f:List Int),Cf f<k->okF n m f->¬Dh M s ->
  A7 k (Na a b emb rp s) f=A95 a b emb rp M (I0 (Bi a b n m emb) acc m M k s f):=by
 obtain ⟨hn,hn8,hm,hm8⟩:=h.pos;have hL:=Az;intro k
 induction k with
 | zero=>intro s f hk;omega
 | succ k ih=>
   intro s f hk hf hs;show B0 (A7 k) _ f=_;unfold B0;have hfl:=hf.1;have hs2:s.2.length<M/\s.1<=5000:=by unfold Dh at hs;omega
   rw [A1o (by omega)];simp only [obs0,I0];by_cases hq:B6 f=f.length
   ·rw [ip0 (by omega),ip0 hq];have e1:=hfc f s.2 hf (Afw.1 hq) hs2.1;show (E4 f (rp s.2)).bind _=_;rw [e1];simp only [obs0];by_cases ha:acc f
    ·rw [ip0 ha,ip0 ha];refine congrArg some (Prod.ext ?_ rfl);rw [decide_eq_decide];unfold Dh;simp only;omega
    ·rw [in0 ha,in0 ha];refine congrArg some (Prod.ext ?_ rfl);rw [decide_eq_decide];unfold Dh;omega
   ·rw [in0 (by omega),in0 hq];have hq4:B6 f<f.length:=by have:=Rr f;omega
    have hneg:=Q2 f hq4;have key : ∀c y (s:SS),y+c=m->¬Dh M s->Aj (Be (A7 k) f (B6 f:Int)) ((y:Int),Na a b emb rp s) =
      some (Ban a b emb rp M (Il (I0 (Bi a b n m emb) acc m M k) (Bi a b n m emb) M f (B6 f) c y s)):=by
     intro c
     induction c with
     | zero=> intro y s hy hd;refine Cn ?_;unfold Be;dsimp only;rw [show (Na a b emb rp s).b.Size=(m:Int) from h.sb,in0 (by omega)];simp only [Il];rw [A18 hd]
     | succ c ihc=>
       intro y s hy hd;have hd2:s.2.length<M/\s.1<=5000:=by unfold Dh at hd;omega
       simp only [Il];rw [in0 hd];by_cases h5:s.1+1>5000
       ·rw [ip0 h5];refine Cn ?_;unfold Be;dsimp only;rw [show (Na a b emb rp s).b.Size=(m:Int) from h.sb,ip0 (by omega),Af (by show InI ((s.1:Int)+1);unfold InI;omega),ip0 (show (Na a b emb rp s).tries+1>5000 by show (s.1:Int)+1>5000;omega),Aog (by unfold Dh;simp only;omega)];rfl
       ·rw [in0 h5];have hof:okF n m (f.set (B6 f) (y:Int)):=hf.set (by omega);have hop:=Xa hq4 hneg (y:=(y:Int)) (by omega);have hI:InI ((y:Int)+1):=by unfold InI;omega
        have step : ∀X,(Be (A7 k) f (B6 f:Int)) ((y:Int),Na a b emb rp s)=X->X=(let s1:=Na a b emb rp (s.1+1,s.2);(Bt s1 (f.set (B6 f) (y:Int))).bind λ(r14,u15)=>if r14=true then (A7 k s1 u15).bind λ(r17,u18)=>if r17=true then ask (InI ((y:Int)+1))<|some (.inl ((y:Int)+1,u18)) else some (.inr (.inl u18))
           else ask (InI ((y:Int)+1))<|some (.inl ((y:Int)+1,s1))):=by
         rintro X rfl;unfold Be;dsimp only;rw [show (Na a b emb rp s).b.Size=(m:Int) from h.sb,ip0 (by omega),Af (by show InI ((s.1:Int)+1);unfold InI;omega),in0 (show ¬(Na a b emb rp s).tries+1>5000 by show ¬(s.1:Int)+1>5000;omega),Apl (by omega)];simp only [obs0];rw [Af (by omega),tna0];rfl
        rcases A26 h (s:=Na a b emb rp (s.1+1,s.2)) rfl rfl hof with ⟨g,e1,e2⟩ | ⟨e1,x,e2⟩
        ·have e1':Bi a b n m emb (f.set (B6 f) (y:Int))=some g:=e1;obtain ⟨g1,g2,g3,g4,g5⟩:=Pt h hof e1';have go:=ih (s.1+1,s.2) g (by omega) g1 (by unfold Dh;simp only;omega);have hst:=step _ rfl;dsimp only at hst;rw [e2] at hst;simp only [obs0] at hst;rw [ip0 trivial,go] at hst;simp only [A95,obs0] at hst;rw [e1'];dsimp only;by_cases hd3:Dh M (I0 (Bi a b n m emb) acc m M k (s.1+1,s.2) g)
         ·rw [dfa0 (by simpa using hd3),in0 (by simp)] at hst;rw [Aoa hd3,Aog hd3];exact Cn hst
         ·rw [dtr0 hd3,ip0 rfl,Af hI] at hst;rw [F2 hst];exact ihc (y+1) _ (by omega) hd3
        ·have e1':Bi a b n m emb (f.set (B6 f) (y:Int))=none:=e1;have hst:=step _ rfl;dsimp only at hst;rw [e2] at hst;simp only [obs0] at hst;rw [in0 (by simp),Af hI] at hst;rw [e1'];dsimp only;rw [F2 hst];exact ihc (y+1) _ (by omega) (by unfold Dh;simp only;omega)
    have e2:=key m 0 s (by omega) hs;have e2':Aj (Be (A7 k) f (B6 f:Int)) (0,Na a b emb rp s)=_:=e2;rw [e2'];simp only [obs0];by_cases hd:Dh M (Il (I0 (Bi a b n m emb) acc m M k) (Bi a b n m emb) M f (B6 f) m 0 s)
    ·rw [Aog hd];dsimp only;unfold A95;rw [A3z hd]
    ·rw [A18 hd];dsimp only;unfold A95;rw [Az1 hd]
end
theorem Axo {s1 s2:ShomSearch->List Int->Option (Bool×ShomSearch)} (h : ∀s f,LeO (s1 s f) (s2 s f)) (s:ShomSearch) (f:List Int):LeO (B0 s1 s f) (B0 s2 s f):=by
 unfold B0;refine LeO.bind (LeO.refl _) λq=>LeO.ite (LeO.refl _) (LeO.bind (LeO.loop (λs=> ?_) _) λ_=>LeO.refl _)
 obtain ⟨x,y⟩:=s;unfold Be;dsimp only;exact LeO.ite (LeO.ask (LeO.ite (LeO.refl _) (LeO.bind (LeO.refl _) λr=>LeO.ask (LeO.bind (LeO.refl _) λr2=>LeO.ite (LeO.bind (h _ _) λ_=>LeO.refl _) (LeO.refl _))))) (LeO.refl _)
theorem A32 (s:ShomSearch) (f:List Int):upO λn=>A7 n s f:=A7p (F:=A7) (λ_ _=>rfl) (λ_ h a b=>Axo h a b) s f
section
variable {a b:SAlgebra} {n m:Nat}
noncomputable def Db (a b:SAlgebra) (n m:Nat) (emb:Bool) (acc:List Int->Prop) (M:Nat):SS:=match Bi a b n m emb (List.replicate n (-1)) with
 | some g=>I0 (Bi a b n m emb) acc m M (Cf g+1) (0,[]) g
 | none=>(0,[])
theorem Ub {emb:Bool} {acc:List Int->Prop} {M:Nat} {g:List Int} (e:Bi a b n m emb (List.replicate n (-1))=some g):Db a b n m emb acc M=I0 (Bi a b n m emb) acc m M (Cf g+1) (0,[]) g:=by unfold Db;rw [e]
theorem Zs {emb:Bool} {acc:List Int->Prop} {M:Nat} (e:Bi a b n m emb (List.replicate n (-1))=none):Db a b n m emb acc M=(0,[]):=by unfold Db;rw [e]
noncomputable def Azp (s:SS):Option (List (List Int)×Bool):=some (s.2,decide (s.1<=5000))
theorem Ab4 (n m:Nat):okF n m (List.replicate n (-1)):=⟨List.length_replicate,λx hx=>by rw [(List.mem_replicate.1 hx).2];omega⟩
theorem At3 (h:Pair a b n m) (emb onto:Bool) {M:Nat} (hM0:0<M) (hM:M<=1000):Dg a b emb onto (M:Int)=Azp (Db a b n m emb (D2 m onto) M):=by
 obtain ⟨hn,hn8,hm,hm8⟩:=h.pos;have hL:=Az;unfold Dg;have e:=Bp (body:=Fg a b emb onto (M:Int)) (λi=>((i:Int),List.replicate i (-1))) n (List.replicate n (-1)) (λi hi=>by
  unfold Fg;dsimp only;rw [h.sa,ip0 (by omega),Af (by simp;omega),Af (by omega),<-List.replicate_succ'];rfl) (by
  unfold Fg;dsimp only;rw [h.sa,in0 (by omega)])
 have e':Aj (Fg a b emb onto (M:Int)) (0,Al Int)=some (List.replicate n (-1)):=e;rw [e'];simp only [obs0];have hok:=Ab4 n m;rw [Ajt h hok];simp only [obs0];have hd0:¬Dh M ((0,[]):SS):=by unfold Dh;simp only [List.length_nil];omega
 have fin : ∀s:SS,some ((Dr a b emb onto M s).found,decide ((Dr a b emb onto M s).tries<=5000))=Azp s:=λs=>by refine congrArg some (Prod.ext rfl ?_);rw [decide_eq_decide];show (s.1:Int)<=5000↔_;omega
 have go : ∀g,Wo a b n m (List.replicate n (-1))=some g->(Alw λk=>Au k (Dr a b emb onto M (0,[])) g)=some ((),Dr a b emb onto M (I0 (Bi a b n m emb) (D2 m onto) m M (Cf g+1) (0,[]) g)):=by intro g e1;exact A2x (Bab _ _) (A0s h emb onto hM (Cf g+1) (0,[]) g (Nat.lt_succ_self _) (S3 h hok e1).1 hd0)
 have e0:({ a:=a,b:=b,into:=emb,onto:=onto,most:=(M:Int),tries:=0,found:=Al (List Int) }:Sl7Search)=Dr a b emb onto M (0,[]):=rfl;rw [e0];cases e1:Wo a b n m (List.replicate n (-1)) with
 | none=>
   have eE:Bi a b n m emb (List.replicate n (-1))=none:=by unfold Bi;rw [e1]
   rw [Zs eE];dsimp only;rw [in0 (by simp)];exact fin (0,[])
 | some g=>
   have hgo:=go g e1;have hgl:=(S3 h hok e1).1.1;dsimp only;rw [ip0 rfl];by_cases hE:emb=true
   ·rw [ip0 hE,Aio (by omega)];simp only [obs0];by_cases hI:L7 g
    ·have eE:Bi a b n m emb (List.replicate n (-1))=some g:=by unfold Bi;rw [e1];exact in0 (λhc=>hc.2 hI)
     rw [Ub eE,dtr0 hI,ip0 rfl,hgo];exact fin _
    ·have eE:Bi a b n m emb (List.replicate n (-1))=none:=by unfold Bi;rw [e1];exact ip0 ⟨hE,hI⟩
     rw [Zs eE,dfa0 hI,in0 (by simp)];exact fin (0,[])
   ·have eE:Bi a b n m emb (List.replicate n (-1))=some g:=by unfold Bi;rw [e1];exact in0 (λhc=>hE hc.1)
    rw [Ub eE,in0 hE,hgo];exact fin _
theorem Akm {body:Int×List Int->Option ((Int×List Int) ⊕ List Int)} (_hn:n<=8) (hb : ∀(i:Nat) g,i<n->g.length=n->body ((i:Int),g)=some (.inl (((i+1:Nat):Int),g.set i (-1)))) (he : ∀g,body ((n:Int),g)=some (.inr g)):Aj body (0,List.replicate n 0)=some (List.replicate n (-1)):=by
 have:=Bp (body:=body) (λi=>((i:Int),List.replicate i (-1)++List.replicate (n-i) 0)) n (List.replicate n (-1)) (λi hi=>by
  rw [hb i _ hi (by simp;omega),A9u _ _ _ hi (by simp),<-List.replicate_succ']) (by
  rw [he];simp)
 simpa using this
noncomputable def A4i (rp:List (List Int)->FD) (s:SS):Option (Bool×FD):=some (decide (s.1<=5000),rp s.2)
theorem Atv (h:Pair a b n m) (emb:Bool) {M:Nat} (hM:0<M) {acc:List Int->Prop} {rp:List (List Int)->FD} (hfc:A63 n m M acc rp) :
  Dq a b emb (rp [])=A4i rp (Db a b n m emb acc M):=by
 obtain ⟨hn,hn8,hm,hm8⟩:=h.pos;have hL:=Az;have hok:=Ab4 n m;have hd0:¬Dh M ((0,[]):SS):=by unfold Dh;simp only [List.length_nil];omega
 have main:((Bt (Na a b emb rp (0,[])) (List.replicate n (-1))).bind λ(r6,u7)=>if r6=true then (Alw λk=>A7 k (Na a b emb rp (0,[])) u7).bind λ(_,u10)=>some (decide (u10.tries<=5000),u10.found) else some (decide ((0:Int)<=5000),rp []))=A4i rp (Db a b n m emb acc M):=by
  rcases A26 h (s:=Na a b emb rp (0,[])) rfl rfl hok with ⟨g,e1,e2⟩ | ⟨e1,x,e2⟩
  ·have e1':Bi a b n m emb (List.replicate n (-1))=some g:=e1;rw [e2,Ub e1'];simp only [obs0];rw [ip0 trivial,A2x (A32 _ _) (A0i h emb hfc (Cf g+1) (0,[]) g (Nat.lt_succ_self _) (Pt h hok e1').1 hd0)];simp only [obs0];refine congrArg some (Prod.ext ?_ rfl);rw [decide_eq_decide];show ((I0 (Bi a b n m emb) acc m M (Cf g+1) (0,[]) g).1:Int)<=5000↔_;omega
  ·have e1':Bi a b n m emb (List.replicate n (-1))=none:=e1;rw [e2,Zs e1'];simp only [obs0];rw [in0 (by simp)];rfl
 have eS : ∀x,rp []=x->Na a b emb rp (0,[])={ a:=a,b:=b,embed:=emb,tries:=0,found:=x }:=by rintro x rfl;rfl
 unfold Dq;cases hr:rp [] with
 | inl fs=>
   dsimp only;rw [h.sa,Af (by omega),tna0,Akm hn8 (λi g hi hg=>by
    unfold Fs;dsimp only;rw [h.sa,tna0,ip0 (by omega),Af (by omega),Af (by omega),tna0];rfl) (λg=>by
    unfold Fs;dsimp only;rw [h.sa,tna0,in0 (by omega)])]
   simp only [obs0];rw [eS _ hr,hr] at main;exact main
 | inr q=>
   dsimp only;rw [h.sa,Af (by omega),tna0,Akm hn8 (λi g hi hg=>by
    unfold Eg;dsimp only;rw [h.sa,tna0,ip0 (by omega),Af (by omega),Af (by omega),tna0];rfl) (λg=>by
    unfold Eg;dsimp only;rw [h.sa,tna0,in0 (by omega)])]
   simp only [obs0];rw [eS _ hr,hr] at main;exact main
end
theorem A9m {f:List Int} {q:Nat} (hq:nth f q<0) (y:Int):ext f (f.set q y):=λx hx h0=>by rw [H5 _ _ _ _ hx,in0];intro e;subst e;omega
section
variable {a b:SAlgebra} {n m:Nat}
structure FoundZ (a b:SAlgebra) (n m:Nat) (emb:Bool) (acc:List Int->Prop) (g:List Int):Prop where
 ok:okF n m g
 all:Cf g=0
 hom:Oo a b g
 acc:acc g
 into:emb=true->L7 g
theorem Ax6 (h:Pair a b n m) {emb:Bool} {acc:List Int->Prop} {M:Nat} {f:List Int} {q:Nat} (hf:okF n m f) (hq:q<f.length) (hneg:nth f q<0) {rec_:SS->List Int->SS}
  (hr : ∀s g,okF n m g->Cf g<Cf f->(Cf g=0->Oo a b g)->(emb=true->L7 g) -> ∃l,(rec_ s g).2=s.2++l/\l.Nodup /\ ∀z∈l,FoundZ a b n m emb acc z/\ext g z) :
  ∀c y s,y+c<=m -> ∃l,(Il rec_ (Bi a b n m emb) M f q c y s).2=s.2++l/\l.Nodup /\ ∀z∈l,FoundZ a b n m emb acc z/\ext f z/\(y:Int)<=nth z q:=by
 intro c
 induction c with
 | zero=>intro y s _;exact ⟨[],by simp [Il],List.nodup_nil,λz hz=>by cases hz⟩
 | succ c ih=>
   intro y s hy;simp only [Il];split
   ·exact ⟨[],by simp,List.nodup_nil,λz hz=>by cases hz⟩
   ·split
    ·exact ⟨[],by simp,List.nodup_nil,λz hz=>by cases hz⟩
    ·have hof:okF n m (f.set q (y:Int)):=hf.set (by omega);have hop:=Xa hq hneg (y:=(y:Int)) (by omega);split
     ·rename_i g e;obtain ⟨g1,g2,g3,g4,g5⟩:=Pt h hof e;obtain ⟨l1,e1,n1,p1⟩:=hr (s.1+1,s.2) g g1 (by omega) g4 g5;obtain ⟨l2,e2,n2,p2⟩:=ih (y+1) (rec_ (s.1+1,s.2) g) (by omega);have hat : ∀z∈l1,nth z q=(y:Int):=by
       intro z hz;have h1:=(p1 z hz).2;have h2:nth (f.set q (y:Int)) q=(y:Int):=by rw [H5 _ _ _ _ hq,ip0 rfl]
       have h3:=g2 q (by simpa using hq) (by omega);rw [h1 q (by have:=g1.1;have:=hf.1;omega) (by omega),h3,h2]
      refine ⟨l1++l2,by rw [e2,e1,List.append_assoc],List.nodup_append.2 ⟨n1,n2,?_⟩,λz hz=> ?_⟩
      ·rintro z hz w hw rfl;have h1:=hat z hz;have h2:=(p2 z hw).2.2;omega
      ·rcases List.mem_append.1 hz with hz | hz
       ·refine ⟨(p1 z hz).1,?_,by rw [hat z hz];exact Int.le_refl _⟩;have hl:(f.set q (y:Int)).length=g.length:=by rw [hof.1,g1.1]
        exact Xp (by simp) (A9m hneg _) (Xp hl g2 (p1 z hz).2)
       ·obtain ⟨k1,k2,k3⟩:=p2 z hz;exact ⟨k1,k2,by omega⟩
     ·obtain ⟨l2,e2,n2,p2⟩:=ih (y+1) (s.1+1,s.2) (by omega);refine ⟨l2,e2,n2,λz hz=> ?_⟩;obtain ⟨k1,k2,k3⟩:=p2 z hz;exact ⟨k1,k2,by omega⟩
theorem Az3 (h:Pair a b n m) (emb:Bool) (acc:List Int->Prop) (M:Nat) : ∀k s f,Cf f<k->okF n m f->(Cf f=0->Oo a b f)->(emb=true->L7 f) ->
  ∃l,(I0 (Bi a b n m emb) acc m M k s f).2=s.2++l/\l.Nodup /\ ∀z∈l,FoundZ a b n m emb acc z/\ext f z:=by
 intro k
 induction k with
 | zero=>intro s f hk;omega
 | succ k ih=>
   intro s f hk hf h0 hi;simp only [I0];by_cases hq:B6 f=f.length
   ·rw [ip0 hq];have hop:=Afw.1 hq;by_cases ha:acc f
    ·rw [ip0 ha];refine ⟨[f],rfl,by simp,λz hz=> ?_⟩;rw [List.mem_singleton.1 hz];exact ⟨⟨hf,hop,h0 hop,ha,hi⟩,Adb f⟩
    ·rw [in0 ha];exact ⟨[],by simp,List.nodup_nil,λz hz=>by cases hz⟩
   ·rw [in0 hq];have hq4:B6 f<f.length:=by have:=Rr f;omega
    obtain ⟨l,e,hn,p⟩:=Ax6 h (M:=M) hf hq4 (Q2 f hq4) (rec_:=I0 (Bi a b n m emb) acc m M k) (λs g hg hl hg0 hgi=>ih s g (by omega) hg hg0 hgi) m 0 s (by omega);exact ⟨l,e,hn,λz hz=>⟨(p z hz).1,(p z hz).2.1⟩⟩
theorem Atb {rec_:SS->List Int->SS} (hr : ∀s g,∃l,(rec_ s g).2=s.2++l) {cl:List Int->Option (List Int)} {M:Nat} {f:List Int} {q:Nat} : ∀c y s,∃l,(Il rec_ cl M f q c y s).2=s.2++l:=by
 intro c
 induction c with
 | zero=>intro y s;exact ⟨[],by simp [Il]⟩
 | succ c ih=>
   intro y s;simp only [Il];split
   ·exact ⟨[],by simp⟩
   ·split
    ·exact ⟨[],by simp⟩
    ·split
     ·rename_i g _;obtain ⟨l1,e1⟩:=hr (s.1+1,s.2) g;obtain ⟨l2,e2⟩:=ih (y+1) (rec_ (s.1+1,s.2) g);exact ⟨l1++l2,by rw [e2,e1,List.append_assoc]⟩
     ·obtain ⟨l2,e2⟩:=ih (y+1) (s.1+1,s.2);exact ⟨l2,e2⟩
theorem A7l {cl:List Int->Option (List Int)} {acc:List Int->Prop} {M:Nat} : ∀k s f,∃l,(I0 cl acc m M k s f).2=s.2++l:=by
 intro k
 induction k with
 | zero=>intro s f;exact ⟨[],by simp [I0]⟩
 | succ k ih=>
   intro s f;simp only [I0];split
   ·split
    ·exact ⟨[f],rfl⟩
    ·exact ⟨[],by simp⟩
   ·exact Atb (λs g=>ih s g) m 0 s
theorem A7x (h:Pair a b n m) (emb:Bool) (acc:List Int->Prop) (M:Nat) {z:List Int} (hz:Oo a b z) (ha:acc z) (hi:emb=true->L7 z) : ∀k s f,Cf f<k->okF n m f->ext f z ->
  ¬Dh M (I0 (Bi a b n m emb) acc m M k s f)->z∈(I0 (Bi a b n m emb) acc m M k s f).2:=by
 have hzl:z.length=n:=by have:=hz.2.1.1;have:=h.sa;omega
 have hzm:Bm z m:=by have:=hz.2.1.2;rw [h.sb] at this;exact this
 intro k
 induction k with
 | zero=>intro s f hk;omega
 | succ k ih=>
   intro s f hk hf he hd;simp only [I0] at hd ⊢;by_cases hq:B6 f=f.length
   ·rw [ip0 hq];have hop:=Afw.1 hq;have hfz:f=z:=by
     refine Qh (by rw [hf.1,hzl]) λx hx=> ?_
     exact (he x hx (Aot.1 hop _ (Ao hx))).symm
    rw [hfz,ip0 ha];simp
   ·rw [in0 hq] at hd ⊢;have hq4:B6 f<f.length:=by have:=Rr f;omega
    have hneg:=Q2 f hq4;have hfl:=hf.1;have hzv:=hzm _ (Ao (show B6 f<z.length by omega));have key : ∀c y s,y+c=m->(y:Int)<=nth z (B6 f)->¬Dh M (Il (I0 (Bi a b n m emb) acc m M k) (Bi a b n m emb) M f (B6 f) c y s)->z∈(Il (I0 (Bi a b n m emb) acc m M k) (Bi a b n m emb) M f (B6 f) c y s).2:=by
     intro c
     induction c with
     | zero=>intro y s hy hv _;omega
     | succ c ihc=>
       intro y s hy hv hd;simp only [Il] at hd ⊢;by_cases h1:Dh M s
       ·rw [ip0 h1] at hd;exact absurd h1 hd
       ·rw [in0 h1] at hd ⊢;by_cases h5:s.1+1>5000
        ·rw [ip0 h5] at hd;exact absurd (by unfold Dh;simp only;omega) hd
        ·rw [in0 h5] at hd ⊢;have hof:okF n m (f.set (B6 f) (y:Int)):=hf.set (by omega);have hop:=Xa hq4 hneg (y:=(y:Int)) (by omega);by_cases hyz:nth z (B6 f)=(y:Int)
         ·have hez:ext (f.set (B6 f) (y:Int)) z:=λx hx hx0=>by
           simp only [List.length_set] at hx;rw [H5 _ _ _ _ hx] at hx0 ⊢;split at hx0
           ·rename_i e;rw [ip0 e,<-e];exact hyz
           ·rename_i e;rw [in0 e];exact he x hx hx0
          obtain ⟨g,e,hg⟩:=Anc h hof hz hi hez;obtain ⟨g1,g2,g3,_⟩:=Pt h hof e;rw [e] at hd ⊢;dsimp only at hd ⊢;have hd2:¬Dh M (I0 (Bi a b n m emb) acc m M k (s.1+1,s.2) g):=λhc=>by rw [Aoa hc] at hd;exact hd hc
          have hin:=ih (s.1+1,s.2) g (by omega) g1 hg hd2;obtain ⟨l,el⟩:=Atb (rec_:=I0 (Bi a b n m emb) acc m M k) (λs g=>A7l k s g) (cl:=Bi a b n m emb) (M:=M) (f:=f) (q:=B6 f) c (y+1) (I0 (Bi a b n m emb) acc m M k (s.1+1,s.2) g);rw [el];exact List.mem_append_left _ hin
         ·split at hd
          ·exact ihc (y+1) _ (by omega) (by omega) hd
          ·exact ihc (y+1) _ (by omega) (by omega) hd
    exact key m 0 s (by omega) (by omega) hd
theorem Rh (h:Pair a b n m) (emb:Bool) (acc:List Int->Prop) (M:Nat):(Db a b n m emb acc M).2.Nodup /\ ∀z∈(Db a b n m emb acc M).2,FoundZ a b n m emb acc z:=by
 cases e:Bi a b n m emb (List.replicate n (-1)) with
 | none=>rw [Zs e];exact ⟨List.nodup_nil,λz hz=>by cases hz⟩
 | some g=> rw [Ub e];obtain ⟨g1,g2,g3,g4,g5⟩:=Pt h (Ab4 n m) e;obtain ⟨l,e1,n1,p1⟩:=Az3 h emb acc M (Cf g+1) (0,[]) g (Nat.lt_succ_self _) g1 g4 g5;rw [e1];exact ⟨by simpa using n1,λz hz=>(p1 z (by simpa using hz)).1⟩
theorem Asz (h:Pair a b n m) (emb:Bool) (acc:List Int->Prop) (M:Nat) {z:List Int} (hz:Oo a b z) (ha:acc z) (hi:emb=true->L7 z) (hd:¬Dh M (Db a b n m emb acc M)):z∈(Db a b n m emb acc M).2:=by
 have he:ext (List.replicate n (-1)) z:=λx hx h0=>by rw [Ad4 _ (by simpa using hx)] at h0;omega
 obtain ⟨g,e,hg⟩:=Anc h (Ab4 n m) hz hi he;rw [Ub e] at hd ⊢;exact A7x h emb acc M hz ha hi (Cf g+1) (0,[]) g (Nat.lt_succ_self _) (Pt h (Ab4 n m) e).1 hg hd
end
section
variable {a b:SAlgebra} {n m:Nat}
theorem A6r (hn:n<=8):A63 n m 301 (D2 m false) .inl:=by
 have hL:=Az;intro f fs hf _ hl;have ha:D2 m false f:=λhc=>by cases hc
 unfold E4 J9;dsimp only;rw [Apl (by have:=hf.1;omega)];simp only [obs0];rw [Af (by simp only [List.length_singleton];omega),ip0 ha];simp only [obs0];refine congrArg some (Prod.ext ?_ rfl);rw [decide_eq_decide];omega
noncomputable def Ae0 (a b:SAlgebra) (n m:Nat) (emb:Bool):List (List Int)×Bool:=if (Db a b n m emb (D2 m false) 301).1<=5000/\(Db a b n m emb (D2 m false) 301).2.length<=300 then ((Db a b n m emb (D2 m false) 301).2,true) else ([],false)
theorem Ake (h:Pair a b n m) (emb:Bool):He a b emb=some (Ae0 a b n m emb):=by
 obtain ⟨hn,hn8,hm,hm8⟩:=h.pos;have e:=Atv h emb (M:=301) (by omega) (A6r (m:=m) hn8);unfold He;have e':Dq a b emb (Sum.inl (Al (List Int)))=A4i .inl (Db a b n m emb (D2 m false) 301):=e;rw [e'];unfold A4i Ae0;simp only [obs0];by_cases h1:(Db a b n m emb (D2 m false) 301).1<=5000
 ·rw [dtr0 h1,ip0 rfl];by_cases h2:(Db a b n m emb (D2 m false) 301).2.length<=300
  ·rw [in0 (by omega),ip0 ⟨h1,h2⟩]
  ·rw [ip0 (by omega),in0 (λhc=>h2 hc.2)]
 ·rw [dfa0 h1,in0 (by simp),in0 (λhc=>h1 hc.1)]
theorem Akr (h:Pair a b n m) (emb:Bool):((Dg a b emb false 301).bind λr3=>if r3.2=true then if (r3.1.length:Int)>300 then some (Al (List Int),false) else some (r3.1,true) else some (Al (List Int),false))=some (Ae0 a b n m emb):=by
 have e:Dg a b emb false 301=Azp (Db a b n m emb (D2 m false) 301):=At3 h emb false (M:=301) (by omega) (by omega);rw [e];unfold Azp Ae0;simp only [obs0];by_cases h1:(Db a b n m emb (D2 m false) 301).1<=5000
 ·rw [dtr0 h1,ip0 rfl];by_cases h2:(Db a b n m emb (D2 m false) 301).2.length<=300
  ·rw [in0 (by omega),ip0 ⟨h1,h2⟩]
  ·rw [ip0 (by omega),in0 (λhc=>h2 hc.2)]
 ·rw [dfa0 h1,in0 (by simp),in0 (λhc=>h1 hc.1)]
theorem A4k (h:Pair a b n m) (emb:Bool) (ht:(Ae0 a b n m emb).2=true):(Ae0 a b n m emb).1.Nodup/\(Ae0 a b n m emb).1.length<=300 /\ ∀z,z∈(Ae0 a b n m emb).1↔Oo a b z/\(emb=true->L7 z):=by
 unfold Ae0 at ht ⊢;by_cases hc:(Db a b n m emb (D2 m false) 301).1<=5000/\(Db a b n m emb (D2 m false) 301).2.length<=300
 ·rw [ip0 hc];obtain ⟨h1,h2⟩:=Rh h emb (D2 m false) 301;refine ⟨h1,hc.2,λz=>⟨λhz=>⟨(h2 z hz).hom,(h2 z hz).into⟩,λhz=>Asz h emb (D2 m false) 301 hz.1 (λhx=>by cases hx) hz.2 (by unfold Dh;omega)⟩⟩
 ·rw [in0 hc] at ht;cases ht
theorem A82 {emb:Bool} (ht:¬(Ae0 a b n m emb).2=true):Ae0 a b n m emb=([],false):=by
 unfold Ae0 at ht ⊢;split
 ·rename_i hc;rw [ip0 hc] at ht;exact absurd rfl ht
 ·rfl
noncomputable def Ag7 (a b:SAlgebra) (n m:Nat) (emb onto:Bool):List Int×Bool:=if (Db a b n m emb (D2 m onto) 1).1<=5000 then (match (Db a b n m emb (D2 m onto) 1).2 with | []=>([],false) | f::_=>(f,true)) else ([],false)
theorem Bbq (h:Pair a b n m) (emb onto:Bool):Np a b emb onto=some (Ag7 a b n m emb onto):=by
 have e:Dg a b emb onto 1=Azp (Db a b n m emb (D2 m onto) 1):=At3 h emb onto (M:=1) (by omega) (by omega);unfold Np;rw [e];unfold Azp Ag7;simp only [obs0];by_cases h1:(Db a b n m emb (D2 m onto) 1).1<=5000
 ·rw [dtr0 h1,ip0 rfl,ip0 h1];cases e2:(Db a b n m emb (D2 m onto) 1).2 with
  | nil=>rfl
  | cons f fs=> rw [in0 (by simp only [List.length_cons];omega),Af (by simp only [List.length_cons];omega)];rfl
 ·rw [dfa0 h1,in0 (by simp),in0 h1]
theorem Ayo (h:Pair a b n m) (emb onto:Bool) (good:Ak4) (hfc:A63 n m 1 (D2 m onto) (λfs=> .inr (good,fs.head?))):Ha a b emb good=some ((Db a b n m emb (D2 m onto) 1).2.head?,decide ((Db a b n m emb (D2 m onto) 1).1<=5000)):=by have e:=Atv h emb (M:=1) (by omega) hfc;unfold Ha;have e':Dq a b emb (Sum.inr (good,none))=A4i (λfs=> .inr (good,fs.head?)) (Db a b n m emb (D2 m onto) 1):=e;rw [e'];unfold A4i;simp only [obs0];cases (Db a b n m emb (D2 m onto) 1).2<;>rfl
theorem A33 (h:Pair a b n m) (emb onto:Bool):((match ((Db a b n m emb (D2 m onto) 1).2.head?,decide ((Db a b n m emb (D2 m onto) 1).1<=5000)) with
  | (none,r3_2)=>if r3_2=true then some (Al Int,false) else some (Al Int,false)
  | (some r3_1,r3_2)=>if r3_2=true then ask ((0:Int)<r3_1.length) (some (r3_1,true)) else some (Al Int,false)):Option (List Int×Bool))=some (Ag7 a b n m emb onto):=by
 obtain ⟨hn,hn8,hm,hm8⟩:=h.pos;have hf:=(Rh h emb (D2 m onto) 1).2;unfold Ag7;cases e2:(Db a b n m emb (D2 m onto) 1).2 with
 | nil=> dsimp only [List.head?_nil];rw [ite_self,ite_self]
 | cons f fs=>
   dsimp only [List.head?_cons];have hl:=(hf f (by rw [e2];simp)).ok.1;by_cases h1:(Db a b n m emb (D2 m onto) 1).1<=5000
   ·rw [dtr0 h1,ip0 rfl,ip0 h1,Af (by omega)]
   ·rw [dfa0 h1,in0 (by simp),in0 h1]
theorem A4b (h:Pair a b n m) (emb onto:Bool) (ht:(Ag7 a b n m emb onto).2=true):Oo a b (Ag7 a b n m emb onto).1/\(emb=true->L7 (Ag7 a b n m emb onto).1)/\D2 m onto (Ag7 a b n m emb onto).1:=by
 have hf:=(Rh h emb (D2 m onto) 1).2;unfold Ag7 at ht ⊢;by_cases h1:(Db a b n m emb (D2 m onto) 1).1<=5000
 ·rw [ip0 h1] at ht ⊢;cases e2:(Db a b n m emb (D2 m onto) 1).2 with
  | nil=>rw [e2] at ht;cases ht
  | cons f fs=> have:=hf f (by rw [e2];simp);exact ⟨this.hom,this.into,this.acc⟩
 ·rw [in0 h1] at ht;cases ht
theorem A5r (h:Pair a b n m) (emb onto:Bool):(Ag7 a b n m emb onto).1.length<=8:=by
 obtain ⟨hn,hn8,hm,hm8⟩:=h.pos;by_cases ht:(Ag7 a b n m emb onto).2=true
 ·have:=(A4b h emb onto ht).1.2.1.1;have:=h.sa;omega
 ·unfold Ag7 at ht ⊢;split
  ·rename_i h1;rw [ip0 h1] at ht;split
   ·simp
   ·rename_i e;rw [e] at ht;exact absurd rfl ht
  ·simp
noncomputable def Ge (a b:SAlgebra) (emb:Bool):List (List Int)×Bool:=if I3 a b then Ae0 a b a.Size.toNat b.Size.toNat emb else ([],false)
noncomputable def A1p (a b:SAlgebra) (emb onto:Bool):List Int×Bool:=if I3 a b then Ag7 a b a.Size.toNat b.Size.toNat emb onto else ([],false)
theorem Ahb (ha:Du a) (hb:Du b):K4 a b=some (Ge a b false)/\Ir a b=some (Ge a b false):=by
 unfold K4 Ir Ge;rw [Amw ha hb,Aun ha hb];simp only [obs0];by_cases h:I3 a b
 ·have hP:=Qv h;rw [show (decide (B8 a/\B8 b/\C4 a=C4 b))=true from dtr0 h,ip0 rfl,ip0 h,Ake hP];exact ⟨rfl,Akr hP false⟩
 ·rw [show (decide (B8 a/\B8 b/\C4 a=C4 b))=false from dfa0 h,in0 (by simp),in0 h];exact ⟨rfl,rfl⟩
theorem Aiw {emb:Bool} (ht:(Ge a b emb).2=true):I3 a b/\(Ge a b emb).1.Nodup/\(Ge a b emb).1.length<=300 /\ ∀z,z∈(Ge a b emb).1↔Oo a b z/\(emb=true->L7 z):=by
 unfold Ge at ht ⊢;by_cases h:I3 a b
 ·rw [ip0 h] at ht ⊢;exact ⟨h,A4k (Qv h) emb ht⟩
 ·rw [in0 h] at ht;cases ht
theorem A9f {emb:Bool} (ht:¬(Ge a b emb).2=true):Ge a b emb=([],false):=by
 unfold Ge at ht ⊢;split
 ·rename_i h;rw [ip0 h] at ht;exact A82 ht
 ·rfl
theorem Ajm (emb:Bool):(Ge a b emb).1.length<=300 /\ ∀z∈(Ge a b emb).1,z.length<=8:=by
 by_cases ht:(Ge a b emb).2=true
 ·obtain ⟨h,_,h2,h3⟩:=Aiw ht;refine ⟨h2,λz hz=> ?_⟩;have:=((h3 z).1 hz).1.2.1.1;have:=h.1.2.1;omega
 ·rw [A9f ht];exact ⟨by simp,λz hz=>by cases hz⟩
theorem A7i (emb onto:Bool):(A1p a b emb onto).1.length<=8:=by
 unfold A1p;split
 ·rename_i h;exact A5r (Qv h) emb onto
 ·simp
end
section
variable {code:List Int} (hc : ∀x∈code,0<=x/\x<=255) (hl:code.length<=65536)
include hc hl
theorem Au8 : ∃a b,Gy code=some (a,b)/\Jm a/\Jm b:=by unfold Gy;obtain ⟨a,b,d,e,hd,ha,hb⟩:=A4f (A14 hc hl) (by omega);rw [e];exact ⟨_,_,rfl,ha,hb⟩
end
def Aez (a b:SAlgebra) (f:List Int):Prop:=Oo a b f/\a.Size=b.Size/\uniq f
theorem A48 {f:List Int} {n:Nat} (h:Bm f n):L7 f↔uniq f:= ⟨λhi i hl=>hi i hl (h _ (Ao hl)).1,λhu i hl _=>hu i hl⟩
section
variable {a b c:SAlgebra} {f g:List Int}
theorem Oo.inb (h:Oo a b f):Bm f b.Size.toNat:=by
 have h1:=h.2.1.2;have h2:=h.1.2.1.1
 rwa [show b.Size=((b.Size.toNat:Nat):Int) by omega] at h1
theorem Oo.emb (h:Oo a b f):L7 f↔uniq f:=A48 h.inb
theorem Aez.perm (h:Aez a b f):Perm f a.Size.toNat:=by have h1:=h.1.inb;have h2:=h.1.2.1.1;rw [<-h.2.1] at h1;exact ⟨by omega,h1,h.2.2⟩
theorem Perm.inj {n:Nat} (h:Perm f n) {x y:Nat} (hx:x<n) (hy:y<n) (e:nth f x=nth f y):x=y:=by
 have key : ∀ {x y:Nat},x<y->y<n->nth f x=nth f y->False:=by
  intro x y hxy hy e;have hl:=h.len;refine h.un y (by omega) (H6.2 ⟨x,by simp;omega,?_⟩);have:nth (f.take y) x=nth f x:=by rw [Cz (by simp;omega),Cz (by omega),List.getElem_take]
  rw [this,e]
 rcases Nat.lt_trichotomy x y with h1 | h1 | h1
 ·exact (key h1 hy e).elim
 ·exact h1
 ·exact (key h1 hx e.symm).elim
theorem Ab7 {n:Nat} (hl:f.length=n) (h : ∀x y,x<n->y<n->nth f x=nth f y->x=y):uniq f:=by
 intro i hi hm;obtain ⟨j,hj,e⟩:=H6.1 hm;have hj2:j<i:=by simp at hj;omega
 have:nth (f.take i) j=nth f j:=by rw [Cz hj,Cz (by omega),List.getElem_take]
 rw [this] at e;have:=h j i (by omega) (by omega) e;omega
theorem Perm.undo {n:Nat} (h:Perm f n) : ∃j:List Int,j.length=n /\ ∀x,x<n->nth j (nth f x).toNat=(x:Int):=by
 refine ⟨(List.range n).map λy=>if hx : ∃x,x<n/\nth f x=((y:Nat):Int) then ((Classical.choose hx:Nat):Int) else 0,by simp,λx hx=> ?_⟩;have hv:=h.fin _ (Ao (show x<f.length by rw [h.len];exact hx));have hex : ∃z,z<n/\nth f z=(((nth f x).toNat:Nat):Int):=⟨x,hx,by omega⟩
 rw [Gc _ (by simp;omega),Ai6 (by omega),dif_pos hex];obtain ⟨c1,c2⟩:=Classical.choose_spec hex;have:=h.inj c1 hx (by rw [c2];omega);omega
theorem Aez.inv (h:Aez a b f) : ∃j,Aez b a j/\(∀x,x<a.Size.toNat->nth j (nth f x).toNat=(x:Int)) /\ ∀y,y<a.Size.toNat->nth f (nth j y).toNat=(y:Int):=by
 have hP:=h.perm;have hn8:a.Size.toNat<=8:=by have:=h.1.1.1.2.1;omega
 obtain ⟨j,h1,h2⟩:=hP.undo;have hin:=A7a hP h1 h2;have hback : ∀y,y<a.Size.toNat->nth f (nth j y).toNat=(y:Int):=by intro y hy;obtain ⟨x,hx,e⟩:=hP.onto hy;have h3:=h2 x hx;rw [e,tna0] at h3;rw [h3,tna0,e]
 have hb:b.Size.toNat=a.Size.toNat:=by rw [h.2.1]
 refine ⟨j,⟨A86 h.1 h.2.1 hP h1 h2,h.2.1.symm,Ab7 h1 λx y hx hy e=> ?_⟩,h2,hback⟩;have e1:=hback x hx;rw [e,hback y hy] at e1;omega
theorem Aez.comp (h1:Aez a b f) (h2:Aez b c g):Aez a c (Dw f g):=by
 have hP:=h1.perm;have hQ:=h2.perm;have hl:=hP.len;have hb:b.Size.toNat=a.Size.toNat:=by rw [h1.2.1]
 refine ⟨A50 h1.1 h2.1,h1.2.1.trans h2.2.1,Ab7 (n:=a.Size.toNat) (by simp [Dw,hl]) λx y hx hy e=> ?_⟩;have hx2:=hP.fin _ (Ao (show x<f.length by omega));have hy2:=hP.fin _ (Ao (show y<f.length by omega));unfold Dw at e;rw [Gc _ (by omega),Gc _ (by omega)] at e;have:=hQ.inj (by omega) (by omega) e;exact hP.inj hx hy (by omega)
def idL (n:Nat):List Int:=(List.range n).map λi:Nat=>(i:Int)
theorem Awz {n x:Nat} (h:x<n):nth (idL n) x=(x:Int):=by unfold idL;rw [Gc _ (by simpa using h),Ai6 h]
theorem A8l (h:B8 a):Aez a a (idL a.Size.toNat):=by
 have hn1:=h.1;have hlen:(idL a.Size.toNat).length=a.Size.toNat:=by simp [idL]
 have hin:Bm (idL a.Size.toNat) a.Size:=by intro x hx;obtain ⟨i,hi,rfl⟩:=List.mem_map.1 hx;have:=List.mem_range.1 hi;omega
 refine ⟨⟨⟨h,h,rfl⟩,⟨by rw [hlen];omega,hin⟩,?_⟩,rfl,Ab7 hlen λx y hx hy e=> ?_⟩
 ·rintro ⟨i,hi,k,hk,hF⟩;obtain ⟨h1,h2,h3,h4⟩:=h.2.2.2 _ (Ao hi);have hv:=h4 _ (Ao hk);refine hF ?_;have key : ∀r k,k<a.Size.toNat^r->It a.Size.toNat a.Size.toNat (idL a.Size.toNat) r k=(k:Int):=by
   intro r
   induction r with
   | zero=>intro k hk;simp at hk;subst hk;rfl
   | succ r ih=> intro k hk;have hd:k/a.Size.toNat<a.Size.toNat^r:=Nat.div_lt_of_lt_mul (by rw [Nat.mul_comm,<-Nat.pow_succ];exact hk);simp only [It];rw [ih _ hd,Awz (Nat.mod_lt k (by omega)),<-Int.natCast_mul,<-Int.natCast_add,Nat.mul_comm,Nat.div_add_mod]
  rw [key _ k (by omega),tna0,Awz (by omega)];omega
 ·rw [Awz hx,Awz hy] at e;omega
end
theorem A9c {f:List Int} {n:Nat} (h:Perm f n) (hn:0<n) : ∀r k l,k<n^r->l<n^r->It n n f r k=It n n f r l->k=l:=by
 intro r
 induction r with
 | zero=>intro k l hk hl _;simp at hk hl;omega
 | succ r ih=>
   intro k l hk hl e;have hdk:k/n<n^r:=Nat.div_lt_of_lt_mul (by rw [Nat.mul_comm,<-Nat.pow_succ];exact hk);have hdl:l/n<n^r:=Nat.div_lt_of_lt_mul (by rw [Nat.mul_comm,<-Nat.pow_succ];exact hl);have hmk:=Nat.mod_lt k hn;have hml:=Nat.mod_lt l hn;have hlen:=h.len;have v1:=h.fin _ (Ao (show k%n<f.length by omega));have v2:=h.fin _ (Ao (show l%n<f.length by omega));simp only [It] at e;have q : ∀(u v s t:Int),0<=s->s<n->0<=t->t<n->u*n+s=v*n+t->u=v/\s=t:=by
    intro u v s t h1 h2 h3 h4 e;have e2:(u*n+s)/(n:Int)=u:=by rw [Int.add_comm,Int.add_mul_ediv_right _ _ (by omega),Int.ediv_eq_zero_of_lt h1 h2];omega
    have e3:(v*n+t)/(n:Int)=v:=by rw [Int.add_comm,Int.add_mul_ediv_right _ _ (by omega),Int.ediv_eq_zero_of_lt h3 h4];omega
    rw [e] at e2;have:u=v:=by omega
    subst this;exact ⟨rfl,by omega⟩
   obtain ⟨e1,e2⟩:=q _ _ _ _ v1.1 v1.2 v2.1 v2.2 e;have h1:=ih _ _ hdk hdl e1;have h2:=h.inj hmk hml e2;rw [<-Nat.div_add_mod k n,<-Nat.div_add_mod l n,h1,h2]
section
variable {a:SAlgebra} {f:List Int} {n:Nat}
theorem Bcm (h:Perm f n) (hn:0<n) (hn8:n<=8) {T t0:List Int} {r:Nat} (hr:r<=3) (hT:t0.length=n^r) : ∀k,k<=n^r -> ∀j,j<k->nth (wr f T n r t0 k) (It n n f r j).toNat=nth f (nth T j).toNat:=by
 intro k
 induction k with
 | zero=>intro _ j hj;omega
 | succ k ih=>
   intro hk j hj;obtain ⟨c,hc1,hc2⟩:=Apc h hn hn8 hr j;obtain ⟨d,hd1,hd2⟩:=Apc h hn hn8 hr k;simp only [wr];rw [H5 _ _ _ _ (by rw [R3,hc1,tna0];omega)];by_cases e:j=k
   ·subst e;rw [ip0 rfl]
   ·rw [in0,ih (by omega) j (by omega)];intro e2;refine e (A9c h hn r j k (by omega) (by omega) ?_);rw [hc1,hd1] at e2 ⊢;simp only [tna0] at e2;omega
theorem Bcq (h:Perm f n) (hn:0<n) {T t0:List Int} {r:Nat} (hT:Bm T n) (h0:Bm t0 n) : ∀k,k<=T.length->Bm (wr f T n r t0 k) n:=by
 intro k
 induction k with
 | zero=>intro _;exact h0
 | succ k ih=>
   intro hk x hx;simp only [wr] at hx;rcases List.mem_or_eq_of_mem_set hx with h1 | h1
   ·exact ih (by omega) x h1
   ·have hv:=hT _ (Ao (show k<T.length by omega));have:=h.fin _ (Ao (show (nth T k).toNat<f.length by rw [h.len];omega));rw [h1];exact this
theorem A8u (ga:B8 a) (hn:a.Size=n) (h:Perm f n):Aez a ⟨a.Size,a.Ops.map (Iu f n)⟩ f:=by
 have hn1:0<n:=by have:=ga.1;omega
 have hn8:n<=8:=by have:=ga.2.1;omega
 have hnn:a.Size.toNat=n:=by omega
 have hgood:B8 ⟨a.Size,a.Ops.map (Iu f n)⟩:=by
  refine ⟨ga.1,ga.2.1,by simpa using ga.2.2.1,λo ho=> ?_⟩;obtain ⟨g,hg,rfl⟩:=List.mem_map.1 ho;obtain ⟨h1,h2,h3,h4⟩:=ga.2.2.2 g hg;rw [hnn] at h4;refine ⟨h1,h2,?_,?_⟩
  ·show (Iu f n g).Table.length=a.Size.toNat^g.Arity.toNat;unfold Iu;dsimp only;rw [R3,List.length_replicate,h3]
  ·show Bm (Iu f n g).Table ((a.Size.toNat:Nat):Int);rw [hnn];exact Bcq h hn1 h4 (λx hx=>by rw [(List.mem_replicate.1 hx).2];omega) _ (Nat.le_refl _)
 have hty:C4 a=C4 ⟨a.Size,a.Ops.map (Iu f n)⟩:=by unfold C4;simp only [List.map_map];rfl
 refine ⟨⟨⟨ga,hgood,hty⟩,⟨by have:=h.len;omega,by rw [hn];exact h.fin⟩,?_⟩,rfl,h.un⟩;rintro ⟨i,hi,k,hk,hF⟩;obtain ⟨r,hr,e1,l1,t1,_⟩:=Aw1 ga hn hi;have er:(nth a.Ops i).Arity.toNat=r:=by omega
 refine hF ?_;show nth f (nth (nth a.Ops i).Table k).toNat=nth (nth (a.Ops.map (Iu f n)) i).Table (It a.Size.toNat a.Size.toNat f (nth a.Ops i).Arity.toNat k).toNat;rw [Gc _ hi,hnn,er];unfold Iu;dsimp only;rw [er,l1];exact (Bcm h hn1 hn8 hr (by simp) (n^r) (Nat.le_refl _) k (by omega)).symm
end
theorem Atf {α:Type} [DecidableEq α] : ∀ {L M:List α},L.Nodup->(∀r∈L,r∈M)->L.length<=M.length
 | [],_,_,_=>Nat.zero_le _
 | x::L,M,h1,h=>by
   have hx:=h x (by simp);have h2:=(List.nodup_cons.1 h1)
   have:=Atf (L:=L) (M:=M.erase x) h2.2 λr hr=>by
    have hne:r≠x:=λe=>h2.1 (e▸hr)
    exact (List.mem_erase_of_ne hne).2 (h r (by simp [hr]))
   rw [List.length_erase_of_mem hx] at this;have hp:0<M.length:=List.length_pos_of_mem hx;simp only [List.length_cons];omega
theorem Ayl {α β:Type} [DecidableEq α] [DecidableEq β] {L:List α} {M:List β} (g:α->β) (hL:L.Nodup) (hg : ∀x∈L,g x∈M) (hi : ∀x∈L,∀y∈L,g x=g y->x=y):L.length<=M.length:=by
 have hn:(L.map g).Nodup:=by
  clear hg
  induction L with
  | nil=>simp
  | cons x L ih=> have h2:=List.nodup_cons.1 hL;rw [List.map_cons,List.nodup_cons];refine ⟨λhm=> ?_,ih h2.2 λu hu v hv=>hi u (by simp [hu]) v (by simp [hv])⟩;obtain ⟨y,hy,e⟩:=List.mem_map.1 hm;have:=hi y (by simp [hy]) x (by simp) e;subst this;exact h2.1 hy
 have:=Atf hn (M:=M) λr hr=>by obtain ⟨x,hx,rfl⟩:=List.mem_map.1 hr;exact hg x hx
 simpa using this
theorem Ayy {α:Type} (L:List α) (v:α->Int) (n:Nat):(L.filter λf=>decide (v f<((n+1:Nat):Int)/\0<=v f)).length=(L.filter λf=>decide (v f<(n:Int)/\0<=v f)).length+(L.filter λf=>decide (v f=(n:Int))).length:=by
 induction L with
 | nil=>rfl
 | cons x L ih=>
   simp only [List.filter_cons];by_cases h1:v x<(n:Int)/\0<=v x
   ·rw [ip0 (by simpa using (show v x<((n+1:Nat):Int)/\0<=v x by omega)),ip0 (by simpa using h1),in0 (by simpa using (show ¬v x=(n:Int) by omega))];simp only [List.length_cons];omega
   ·by_cases h2:v x=(n:Int)
    ·rw [ip0 (by simpa using (show v x<((n+1:Nat):Int)/\0<=v x by omega)),in0 (by simpa using h1),ip0 (by simpa using h2)];simp only [List.length_cons];omega
    ·rw [in0 (by simpa using (show ¬(v x<((n+1:Nat):Int)/\0<=v x) by omega)),in0 (by simpa using h1),in0 (by simpa using h2)];exact ih
theorem A3i {α:Type} (L:List α) (v:α->Int) (p:Nat->Bool) (K:Nat) : ∀n,(∀y,y<n->p y=true->(L.filter λf=>decide (v f=(y:Int))).length=K)->(∀y,y<n->¬p y=true->(L.filter λf=>decide (v f=(y:Int))).length=0) ->
  (L.filter λf=>decide (v f<(n:Int)/\0<=v f)).length=(Av n p).length*K:=by
 intro n
 induction n with
 | zero=>
   intro _ _;have:(L.filter λf=>decide (v f<((0:Nat):Int)/\0<=v f))=[]:=List.filter_eq_nil_iff.2 λx _=>by simp
   rw [this];simp [Av]
 | succ n ih=>
   intro h1 h2;rw [Ayy,ih (λy hy=>h1 y (by omega)) (λy hy=>h2 y (by omega)),F6];by_cases hp:p n=true
   ·rw [ip0 hp,h1 n (by omega) hp,List.length_append,List.length_singleton,Nat.succ_mul]
   ·rw [in0 hp,h2 n (by omega) hp];rfl
noncomputable def Ad2 (all:List (List Int)) (x y:Nat):Bool:=decide (∃f∈all,nth f x=(y:Int))
theorem A4g {a:SAlgebra} {n:Nat} (hn:a.Size=n) (_ga:B8 a) {all:List (List Int)} (hnd:all.Nodup) (hall : ∀z,z∈all↔Aez a a z) {x:Nat} (hx:x<n) : ∃K,all.length=(Av n (Ad2 all x)).length*K:=by
 have hnn:a.Size.toNat=n:=by omega
 have hP : ∀f∈all,Perm f n:=λf hf=>by have:=((hall f).1 hf).perm;rwa [hnn] at this
 have key : ∀y,y<n->Ad2 all x y=true->(all.filter λf=>decide (nth f x=(y:Int))).length=(all.filter λf=>decide (nth f x=(x:Int))).length:=by
  intro y hy ho;obtain ⟨g,hg,eg⟩:=of_decide_eq_true ho;have hgI:=(hall g).1 hg;obtain ⟨j,hj,hj1,hj2⟩:=hgI.inv;rw [hnn] at hj1 hj2;have hjm:j∈all:=(hall j).2 hj;have hcomp : ∀f h:List Int,f∈all->h∈all->Dw f h∈all:=λf h hf hh=>(hall _).2 (((hall f).1 hf).comp ((hall h).1 hh))
  have hval : ∀f h:List Int,f∈all->nth (Dw f h) x=nth h (nth f x).toNat:=λf h hf=>Gc _ (by have:=(hP f hf).len;omega)
  have hinj : ∀h:List Int,h∈all -> ∀f∈all,∀f'∈all,Dw f h=Dw f' h->f=f':=by
   intro h hh f hf f' hf' e;have p1:=hP f hf;have p2:=hP f' hf';have l1:=p1.len;have l2:=p2.len;refine Qh (by omega) λi hi=> ?_
   have v1:=p1.fin _ (Ao hi);have v2:=p2.fin _ (Ao (show i<f'.length by omega));have e1:nth (Dw f h) i=nth h (nth f i).toNat:=Gc _ hi;have e2:nth (Dw f' h) i=nth h (nth f' i).toNat:=Gc _ (by omega);rw [e,e2] at e1;have:=(hP h hh).inj (by omega) (by omega) e1;omega
  refine Nat.le_antisymm ?_ ?_
  ·refine Ayl (λf=>Dw f j) (hnd.filter _) (λf hf=> ?_) (λf hf f' hf' e=>hinj j hjm f (List.mem_filter.1 hf).1 f' (List.mem_filter.1 hf').1 e);obtain ⟨h1,h2⟩:=List.mem_filter.1 hf;have h2:=of_decide_eq_true h2;refine List.mem_filter.2 ⟨hcomp f j h1 hjm,dtr0 ?_⟩;have h3:=hj1 x hx;rw [eg] at h3;rw [hval f j h1,h2,h3]
  ·refine Ayl (λf=>Dw f g) (hnd.filter _) (λf hf=> ?_) (λf hf f' hf' e=>hinj g hg f (List.mem_filter.1 hf).1 f' (List.mem_filter.1 hf').1 e);obtain ⟨h1,h2⟩:=List.mem_filter.1 hf;have h2:=of_decide_eq_true h2;refine List.mem_filter.2 ⟨hcomp f g h1 hg,dtr0 ?_⟩;rw [hval f g h1,h2,tna0,eg]
 refine ⟨(all.filter λf=>decide (nth f x=(x:Int))).length,?_⟩;rw [<-A3i all (λf=>nth f x) (Ad2 all x) _ n key λy hy hno=>by rw [List.length_eq_zero_iff,List.filter_eq_nil_iff];intro f hf h1;exact hno (dtr0 ⟨f,hf,of_decide_eq_true h1⟩)];congr 1;refine (List.filter_eq_self.2 λf hf=> ?_).symm;have p1:=hP f hf;have:=p1.fin _ (Ao (show x<f.length by have:=p1.len;omega));exact dtr0 (by omega)
section
variable {a b:SAlgebra} {n m:Nat}
theorem A2k (hn:n<=8):A63 n m 1 (D2 m false) (λfs=> .inr ((),fs.head?)):=by
 have hL:=Az;intro f fs hf _ hl;have ha:D2 m false f:=λhc=>by cases hc
 have:fs=[]:=List.length_eq_zero_iff.1 (by omega);subst this;unfold E4 Ka Ls;dsimp only [List.head?_nil];simp only [obs0];rw [ip0 trivial,Apl (by have:=hf.1;omega),ip0 ha];simp only [obs0];rfl
theorem Al4 (ha:Du a) (hb:Du b):Ev a b=some (A1p a b true false):=by
 unfold Ev A1p;rw [Amw ha hb];simp only [obs0];by_cases h:I3 a b
 ·have hP:=Qv h;rw [show (decide (B8 a/\B8 b/\C4 a=C4 b))=true from dtr0 h,ip0 rfl,ip0 h,Ayo hP true false _ (A2k hP.pos.2.1)];exact A33 hP true false
 ·rw [show (decide (B8 a/\B8 b/\C4 a=C4 b))=false from dfa0 h,in0 (by simp),in0 h]
noncomputable def Aa0 (a b:SAlgebra):Bool×Bool:=if I3 a b then (if a.Size≠b.Size then (false,true) else
 (decide ((Db a b a.Size.toNat b.Size.toNat true (D2 b.Size.toNat false) 1).1<=5000/\(Db a b a.Size.toNat b.Size.toNat true (D2 b.Size.toNat false) 1).2≠[]),decide ((Db a b a.Size.toNat b.Size.toNat true (D2 b.Size.toNat false) 1).1<=5000))) else (false,false)
theorem M2 (ha:Du a) (hb:Du b):De a b=some (Aa0 a b):=by
 unfold De Aa0;rw [Amw ha hb];simp only [obs0];by_cases h:I3 a b
 ·have hP:=Qv h;obtain ⟨hn,hn8,hm,hm8⟩:=hP.pos;rw [show (decide (B8 a/\B8 b/\C4 a=C4 b))=true from dtr0 h,ip0 rfl,ip0 h];by_cases hS:a.Size=b.Size
  ·rw [in0 (by simpa using hS),in0 (by simpa using hS),Ayo hP true false _ (A2k hP.pos.2.1)];have hf:=(Rh hP true (D2 b.Size.toNat false) 1).2;simp only [obs0];cases e2:(Db a b a.Size.toNat b.Size.toNat true (D2 b.Size.toNat false) 1).2 with
   | nil=>
     dsimp only [List.head?_nil];by_cases h1:(Db a b a.Size.toNat b.Size.toNat true (D2 b.Size.toNat false) 1).1<=5000
     ·rw [dtr0 h1,ip0 rfl,dfa0 (by simp)];rfl
     ·rw [dfa0 h1,in0 (by simp),dfa0 (by simp)]
   | cons f fs=>
     have hl:=(hf f (by rw [e2];simp)).ok.1;dsimp only [List.head?_cons];by_cases h1:(Db a b a.Size.toNat b.Size.toNat true (D2 b.Size.toNat false) 1).1<=5000
     ·rw [dtr0 h1,ip0 rfl,Af (by omega),dtr0 (by simp [h1])]
     ·rw [dfa0 h1,in0 (by simp),dfa0 (by simp [h1])]
  ·rw [ip0 hS,ip0 hS]
 ·rw [show (decide (B8 a/\B8 b/\C4 a=C4 b))=false from dfa0 h,in0 (by simp),in0 h]
theorem Aew (ha:Du a) (hb:Du b):Fq a b=some (Aa0 a b):=by
 unfold Fq Aa0;rw [Aun ha hb];simp only [obs0];by_cases h:I3 a b
 ·have hP:=Qv h;rw [show (decide (B8 a/\B8 b/\C4 a=C4 b))=true from dtr0 h,ip0 rfl,ip0 h];by_cases hS:a.Size=b.Size
  ·have e:Dg a b true false 1=Azp (Db a b a.Size.toNat b.Size.toNat true (D2 b.Size.toNat false) 1):=At3 hP true false (M:=1) (by omega) (by omega);rw [in0 (by simpa using hS),in0 (by simpa using hS),e];unfold Azp;simp only [obs0];by_cases h1:(Db a b a.Size.toNat b.Size.toNat true (D2 b.Size.toNat false) 1).1<=5000
   ·rw [dtr0 h1,ip0 rfl];refine congrArg some (Prod.ext ?_ rfl);dsimp only;rw [decide_eq_decide];cases (Db a b a.Size.toNat b.Size.toNat true (D2 b.Size.toNat false) 1).2 with
    | nil=>simp
    | cons f fs=>simp [h1]
   ·rw [dfa0 h1,in0 (by simp),dfa0 (λhc=>h1 hc.1)]
  ·rw [ip0 hS,ip0 hS]
 ·rw [show (decide (B8 a/\B8 b/\C4 a=C4 b))=false from dfa0 h,in0 (by simp),in0 h]
theorem Aiy (hk:(Aa0 a b).2=true):(Aa0 a b).1=true ↔ ∃f,Aez a b f:=by
 unfold Aa0 at hk ⊢;by_cases h:I3 a b
 ·have hP:=Qv h;rw [ip0 h] at hk ⊢;by_cases hS:a.Size=b.Size
  ·rw [in0 (by simpa using hS)] at hk ⊢;have h1:=of_decide_eq_true hk;dsimp only;rw [decide_eq_true_eq];have hf:=(Rh hP true (D2 b.Size.toNat false) 1).2;constructor
   ·rintro ⟨_,hne⟩;cases e2:(Db a b a.Size.toNat b.Size.toNat true (D2 b.Size.toNat false) 1).2 with
    | nil=>exact absurd e2 hne
    | cons f fs=> have:=hf f (by rw [e2];simp);exact ⟨f,this.hom,hS,this.hom.emb.1 (this.into rfl)⟩
   ·rintro ⟨f,hfI⟩;refine ⟨h1,λhc=> ?_⟩;have:=Asz hP true (D2 b.Size.toNat false) 1 hfI.1 (λhx=>by cases hx) (λ_=>hfI.1.emb.2 hfI.2.2) (by unfold Dh;rw [hc];simp;omega);rw [hc] at this;cases this
  ·rw [ip0 hS] at hk ⊢;exact ⟨λhx=>(by cases hx),λ⟨f,hfI⟩=>absurd hfI.2.1 hS⟩
 ·rw [in0 h] at hk;cases hk
theorem A66 (h1:(Aa0 a b).2=true) (h2:(Aa0 b a).2=true):(Aa0 b a).1=(Aa0 a b).1:=by
 rw [Bool.eq_iff_iff,Aiy h1,Aiy h2];constructor
 ·rintro ⟨f,hf⟩;obtain ⟨j,hj,_⟩:=hf.inv;exact ⟨j,hj⟩
 ·rintro ⟨f,hf⟩;obtain ⟨j,hj,_⟩:=hf.inv;exact ⟨j,hj⟩
noncomputable def Afj (a b:SAlgebra):List Int×Bool:=if a.Size≠b.Size then ([],false) else A1p a b true false
theorem Aqb (ha:Du a) (hb:Du b):I7 a b=some (Afj a b)/\Jn a b=some (Afj a b):=by
 unfold I7 Jn Afj;rw [Aun ha hb];by_cases hS:a.Size=b.Size
 ·simp only [hS,ne_eq,not_true_eq_false,if_false];rw [Al4 ha hb];simp only [obs0];unfold A1p;by_cases h:I3 a b
  ·have hP:=Qv h;rw [show (decide (B8 a/\B8 b/\C4 a=C4 b))=true from dtr0 h,ip0 rfl,ip0 h,Bbq hP];exact ⟨by trivial,by trivial⟩
  ·rw [show (decide (B8 a/\B8 b/\C4 a=C4 b))=false from dfa0 h,in0 (by simp),in0 h];exact ⟨by trivial,by trivial⟩
 ·simp only [hS,ne_eq,not_false_eq_true,if_true,obs0,ite_self];exact ⟨by trivial,by trivial⟩
theorem A4v (hk:(Aa0 a b).2=true):(Afj a b).2=(Aa0 a b).1:=by
 unfold Aa0 at hk ⊢;unfold Afj;by_cases h:I3 a b
 ·rw [ip0 h] at hk ⊢;by_cases hS:a.Size=b.Size
  ·rw [in0 (by simpa using hS)] at hk ⊢;rw [in0 (by simpa using hS)];have h1:=of_decide_eq_true hk;unfold A1p Ag7;rw [ip0 h,ip0 h1];dsimp only;cases (Db a b a.Size.toNat b.Size.toNat true (D2 b.Size.toNat false) 1).2 with
   | nil=>simp
   | cons f fs=>simp [h1]
  ·rw [ip0 hS,ip0 hS]
 ·rw [in0 h] at hk;cases hk
theorem A1w:(Afj a b).1.length<=8:=by
 unfold Afj;split
 ·simp
 ·exact A7i true false
noncomputable def Fm (a:SAlgebra):List (List Int)×Bool:=Ge a a true
theorem Mp:I3 a a↔B8 a:=⟨λh=>h.1,λh=>⟨h,h,rfl⟩⟩
theorem Uv (ha:Du a):D7 a=some (Fm a):=by
 unfold D7 Fm Ge;rw [Nc ha];simp only [obs0];by_cases h:B8 a
 ·have hP:=Qv (Mp.2 h);rw [dtr0 h,ip0 rfl,ip0 (Mp.2 h),Ake hP];rfl
 ·rw [dfa0 h,in0 (by simp),in0 (λhc=>h (Mp.1 hc))]
theorem An5 (h:B8 a):Jx a=some (Ae0 a a a.Size.toNat a.Size.toNat true):=by unfold Jx;exact Akr (Qv (Mp.2 h)) true
theorem Afd (ha:Du a):Ft a=some (Fm a):=by
 unfold Ft Fm Ge;rw [Y2 ha];simp only [obs0];by_cases h:B8 a
 ·rw [dtr0 h,ip0 rfl,ip0 (Mp.2 h),An5 h];rfl
 ·rw [dfa0 h,in0 (by simp),in0 (λhc=>h (Mp.1 hc))]
theorem Yp (ht:(Fm a).2=true):B8 a/\(Fm a).1.Nodup/\(Fm a).1.length<=300 /\ ∀z,z∈(Fm a).1↔Aez a a z:=by obtain ⟨h1,h2,h3,h4⟩:=Aiw (emb:=true) ht;refine ⟨h1.1,h2,h3,λz=>(h4 z).trans ?_⟩;exact ⟨λ⟨k1,k2⟩=>⟨k1,rfl,k1.emb.1 (k2 rfl)⟩,λhk=>⟨hk.1,λ_=>hk.1.emb.2 hk.2.2⟩⟩
noncomputable def O3 (all:List (List Int)) (n x:Nat):List Int:=Av n (Ad2 all x)
noncomputable def Az9 (all:List (List Int)) (n:Nat):List (List Int):=((List.range n).filter λx=>decide (nth (O3 all n x) 0=(x:Int))).map λx=>O3 all n x
theorem Ath (all:List (List Int)) (n k:Nat):((List.range (k+1)).filter λx=>decide (nth (O3 all n x) 0=(x:Int))).map (λx=>O3 all n x)=(((List.range k).filter λx=>decide (nth (O3 all n x) 0=(x:Int))).map λx=>O3 all n x)++(if nth (O3 all n k) 0=(k:Int) then [O3 all n k] else []):=by
 rw [List.range_succ,List.filter_append,List.map_append];by_cases h:nth (O3 all n k) 0=(k:Int)
 ·rw [ip0 h,List.filter_cons_of_pos (by simpa using h)];rfl
 ·rw [in0 h,List.filter_cons_of_neg (by simpa using h)];rfl
theorem Auy {all:List (List Int)} {n:Nat} (hall : ∀f∈all,Perm f n) (h0:all≠[]) {x:Nat} (hx:x<n):0<(O3 all n x).length:=by obtain ⟨f,hf⟩:=List.exists_mem_of_ne_nil all h0;have hP:=hall f hf;have hv:=hP.fin _ (Ao (show x<f.length by rw [hP.len];exact hx));refine List.length_pos_of_mem (a:=nth f x) (Im.2 ⟨(nth f x).toNat,by omega,dtr0 ⟨f,hf,by omega⟩,by omega⟩)
theorem A03 {all:List (List Int)} {n:Nat} (hall : ∀f∈all,Perm f n) (hl:all.length<=300) {x:Nat} (hx:x<n) (hn:n<=8) (x6:List (List Int)) (z:SAlgebra) (t:Bool):Aj (Bz z (all,t) (x:Int) x6) (0,List.replicate n false)=some (Mu n (Ad2 all x)):=by
 have key:=Bp (body:=Bz z (all,t) (x:Int) x6) (λi=>((i:Int),Mu n (Ad2 (all.take i) x))) all.length (Mu n (Ad2 all x)) (λi hi=>by
  have hP:=hall _ (Ao hi);have hlen:=hP.len;have hv:=hP.fin _ (Ao (show x<(nth all i).length by omega));have hb:=Is n (Ad2 (all.take i) x);unfold Bz;dsimp only;rw [ip0 (by omega),Af (by omega),tna0,Af (by omega),tna0,Af (by omega),Af (by omega),Abp (by omega)];refine congrArg (λx=>some (Sum.inl (_,x))) (Gq λy _=> ?_);unfold Ad2;rw [Dt hi];by_cases hy:y=(nth (nth all i) x).toNat
  ·rw [ip0 hy];exact (dtr0 ⟨nth all i,by simp,by omega⟩).symm
  ·rw [in0 hy,decide_eq_decide];constructor
   ·rintro ⟨f,hf,e⟩;exact ⟨f,List.mem_append_left _ hf,e⟩
   ·rintro ⟨f,hf,e⟩;rcases List.mem_append.1 hf with h1 | h1
    ·exact ⟨f,h1,e⟩
    ·rw [List.mem_singleton.1 h1] at e;omega) (by
  unfold Bz;dsimp only;rw [in0 (by omega),List.take_length])
 have e0:Mu n (Ad2 (all.take 0) x)=List.replicate n false:=by rw [Ts];exact Gq λy _=>by simp [Ad2]
 rw [e0] at key;exact key
theorem Azx {all:List (List Int)} {n:Nat} (hall : ∀f∈all,Perm f n) (hl:all.length<=300) {x:Nat} (hx:x<n) (hn:n<=8) (x4:List (List Int)) (z:SAlgebra) (t:Bool):Aj (Bu z (all,t) (x:Int) x4) (0,Al Int)=some (O3 all n x):=by
 have key:=Bp (body:=Bu z (all,t) (x:Int) x4) (λi=>((i:Int),Av n (Ad2 (all.take i) x))) all.length (O3 all n x) (λi hi=>by
  have hP:=hall _ (Ao hi);have hlen:=hP.len;have hv:=hP.fin _ (Ao (show x<(nth all i).length by omega));obtain ⟨y0,hy0⟩:=Int.eq_ofNat_of_zero_le hv.1;unfold Bu;dsimp only;rw [ip0 (by omega),Af (by omega),tna0,Af (by omega),tna0,hy0,A97 (by omega) _ (by omega)];simp only [obs0];rw [Af (by omega)];refine congrArg (λx=>some (Sum.inl (_,x))) (Aj5 λy _=> ?_);unfold Ad2;rw [Dt hi];rw [decide_eq_decide];constructor
  ·rintro (h1 | rfl)
   ·obtain ⟨f,hf,e⟩:=of_decide_eq_true h1;exact ⟨f,List.mem_append_left _ hf,e⟩
   ·exact ⟨nth all i,by simp,hy0⟩
  ·rintro ⟨f,hf,e⟩;rcases List.mem_append.1 hf with h1 | h1
   ·exact .inl (dtr0 ⟨f,h1,e⟩)
   ·rw [List.mem_singleton.1 h1,hy0] at e;exact .inr (by omega)) (by
  unfold Bu;dsimp only;rw [in0 (by omega),List.take_length];rfl)
 have e0:Av n (Ad2 (all.take 0) x)=Al Int:=Atr.2 λy _=>by simp [Ad2]
 rw [e0] at key;exact key
noncomputable def Afo (a:SAlgebra):List (List Int)×Bool:=if (Fm a).2=true then (Az9 (Fm a).1 a.Size.toNat,true) else ([],false)
theorem Aji (ht:(Fm a).2=true):B8 a/\(Fm a).1≠[] /\ ∀f∈(Fm a).1,Perm f a.Size.toNat:=by obtain ⟨h1,h2,h3,h4⟩:=Yp ht;exact ⟨h1,List.ne_nil_of_mem ((h4 _).2 (A8l h1)),λf hf=>((h4 f).1 hf).perm⟩
theorem Ax4 (ha:Du a):Dm a=some (Afo a):=by
 unfold Dm Afo;rw [Uv ha];simp only [obs0];by_cases ht:(Fm a).2=true
 ·obtain ⟨hg,h0,hall⟩:=Aji ht;obtain ⟨_,_,hl,_⟩:=Yp ht;obtain ⟨n,hn⟩:=Int.eq_ofNat_of_zero_le (show 0<=a.Size by have:=hg.1;omega);have hn8:n<=8:=by have:=hg.2.1;omega
  have hL:=Az;rw [hn,tna0] at hall;rw [ip0 ht,ip0 ht,hn,tna0];have hall':(Fm a)=((Fm a).1,(Fm a).2):=rfl;have key:=Bp (body:=Bv a (Fm a)) (λi=>((i:Int),((List.range i).filter λx=>decide (nth (O3 (Fm a).1 n x) 0=(x:Int))).map λx=>O3 (Fm a).1 n x)) n (Az9 (Fm a).1 n) (λi hi=>by
   have hp:=Auy hall h0 hi;unfold Bv;dsimp only;rw [hn,ip0 (by omega),Af (by omega),tna0,hall',A03 hall hl hi hn8];simp only [obs0];rw [A5t (by omega)];simp only [obs0];rw [Ath];show ask (0<=0/\0<((O3 (Fm a).1 n i).length:Int)) (if nth (O3 (Fm a).1 n i) (Int.toNat 0)=(i:Int) then _ else _)=_;rw [Af (by omega),Int.toNat_zero];have hlen:(((List.range i).filter λx=>decide (nth (O3 (Fm a).1 n x) 0=(x:Int))).map λx=>O3 (Fm a).1 n x).length<=8:=by rw [List.length_map];have:=List.length_filter_le (λx=>decide (nth (O3 (Fm a).1 n x) 0=(x:Int))) (List.range i);rw [List.length_range] at this;omega
   by_cases hx:nth (O3 (Fm a).1 n i) 0=(i:Int)
   ·rw [ip0 hx,ip0 hx,Af (by simp only [List.length_singleton];omega),Af (by omega)];rfl
   ·rw [in0 hx,in0 hx,Af (by omega),List.append_nil];rfl) (by
   unfold Bv;dsimp only;rw [hn,in0 (by omega)];rfl)
  have key':Aj (Bv a (Fm a)) (0,Al (List Int))=some (Az9 (Fm a).1 n):=key;rw [key'];rfl
 ·rw [in0 ht,in0 ht]
theorem Ay0 (ha:Du a):Dl a=some (Afo a):=by
 unfold Dl Afo;rw [Y2 ha];simp only [obs0];by_cases hg:B8 a
 ·have eA:Ae0 a a a.Size.toNat a.Size.toNat true=Fm a:=by
   unfold Fm Ge;rw [ip0 (Mp.2 hg)]
  rw [dtr0 hg,ip0 rfl,An5 hg,eA];simp only [obs0];by_cases ht:(Fm a).2=true
  ·obtain ⟨_,h0,hall⟩:=Aji ht;obtain ⟨_,_,hl,_⟩:=Yp ht;obtain ⟨n,hn⟩:=Int.eq_ofNat_of_zero_le (show 0<=a.Size by have:=hg.1;omega);have hn8:n<=8:=by have:=hg.2.1;omega
   have hL:=Az;rw [hn,tna0] at hall;rw [ip0 ht,ip0 ht,hn,tna0];have hall':(Fm a)=((Fm a).1,(Fm a).2):=rfl;have key:=Bp (body:=Bx a (Fm a)) (λi=>((i:Int),((List.range i).filter λx=>decide (nth (O3 (Fm a).1 n x) 0=(x:Int))).map λx=>O3 (Fm a).1 n x)) n (Az9 (Fm a).1 n) (λi hi=>by
    have hp:=Auy hall h0 hi;unfold Bx;dsimp only;rw [hn,ip0 (by omega),hall',Azx hall hl hi hn8];simp only [obs0];rw [Ath,Af (by omega),Int.toNat_zero];have hlen:(((List.range i).filter λx=>decide (nth (O3 (Fm a).1 n x) 0=(x:Int))).map λx=>O3 (Fm a).1 n x).length<=8:=by rw [List.length_map];have:=List.length_filter_le (λx=>decide (nth (O3 (Fm a).1 n x) 0=(x:Int))) (List.range i);rw [List.length_range] at this;omega
    by_cases hx:nth (O3 (Fm a).1 n i) 0=(i:Int)
    ·rw [ip0 hx,ip0 hx,Af (by simp only [List.length_singleton];omega),Af (by omega)];rfl
    ·rw [in0 hx,in0 hx,Af (by omega),List.append_nil];rfl) (by
    unfold Bx;dsimp only;rw [hn,in0 (by omega)];rfl)
   have key':Aj (Bx a (Fm a)) (0,Al (List Int))=some (Az9 (Fm a).1 n):=key;rw [key'];rfl
  ·rw [in0 ht,in0 ht]
 ·have ht:¬(Fm a).2=true:=λhc=>hg (Yp hc).1
  rw [dfa0 hg,in0 (by simp),in0 ht]
theorem A3h:(Afo a).2=(Fm a).2/\(Afo a).1.length<=8 /\ ∀o∈(Afo a).1,o.length<=8/\0<o.length /\ ∃K,(Fm a).1.length=o.length*K:=by
 unfold Afo;by_cases ht:(Fm a).2=true
 ·obtain ⟨hg,h0,hall⟩:=Aji ht;obtain ⟨_,hnd,hl,hiff⟩:=Yp ht;have hn8:a.Size.toNat<=8:=by have:=hg.2.1;omega
  rw [ip0 ht];refine ⟨ht.symm,?_,λo ho=> ?_⟩
  ·show (Az9 _ _).length<=8;unfold Az9;rw [List.length_map];have:=List.length_filter_le (λx=>decide (nth (O3 (Fm a).1 a.Size.toNat x) 0=(x:Int))) (List.range a.Size.toNat);rw [List.length_range] at this;omega
  ·obtain ⟨x,hx,rfl⟩:=List.mem_map.1 ho;have hx:=List.mem_range.1 (List.mem_filter.1 hx).1;have:=Ph a.Size.toNat (Ad2 (Fm a).1 x);exact ⟨by unfold O3;omega,Auy hall h0 hx,A4g (by have:=hg.1;omega) hg hnd hiff hx⟩
 ·rw [in0 ht];exact ⟨by simpa using ht,by simp,λo ho=>by cases ho⟩
noncomputable def A04 (a:SAlgebra):List (List Int)×Bool:=if (Ge a a false).2=true then ((Ge a a false).1.filter λf=>decide (Dw f f=f),true) else ([],false)
theorem Ats {L:List (List Int)} {i:Nat} (hi:i<L.length) (p:List Int->Bool):(L.take (i+1)).filter p=(L.take i).filter p++(if p (nth L i)=true then [nth L i] else []):=by
 rw [Dt hi,List.filter_append];by_cases h:p (nth L i)=true
 ·rw [ip0 h,List.filter_cons_of_pos h];rfl
 ·rw [in0 h,List.filter_cons_of_neg (by simpa using h)];rfl
theorem Ai1 (ha:Du a):G2 a=some (A04 a)/\G1 a=some (A04 a):=by
 obtain ⟨e1,e2⟩:=Ahb ha ha;have hL:=Az;unfold G2 G1 Df A04;rw [e1,e2];simp only [obs0];by_cases ht:(Ge a a false).2=true
 ·obtain ⟨h1,h2,h3,h4⟩:=Aiw ht;have hn8:a.Size.toNat<=8:=by have:=h1.1.2.1;omega
  have hrow : ∀i,i<(Ge a a false).1.length->(nth (Ge a a false).1 i).length=a.Size.toNat/\Bm (nth (Ge a a false).1 i) a.Size.toNat:=by intro i hi;have hh:=((h4 _).1 (Ao hi)).1;have:=hh.2.1.1;exact ⟨by omega,hh.inb⟩
  have hfl : ∀i,((Ge a a false).1.take i |>.filter λf=>decide (Dw f f=f)).length<=300:=by
   intro i;have:=List.length_filter_le (λf=>decide (Dw f f=f)) ((Ge a a false).1.take i);have h5:((Ge a a false).1.take i).length<=(Ge a a false).1.length:=by rw [List.length_take];omega
   omega
  rw [ip0 ht,ip0 ht,ip0 ht];have k1:=Bp (body:=C5 (Ge a a false)) (λi=>((i:Int),((Ge a a false).1.take i).filter λf=>decide (Dw f f=f))) (Ge a a false).1.length ((Ge a a false).1.filter λf=>decide (Dw f f=f)) (λi hi=>by
   obtain ⟨r1,r2⟩:=hrow i hi;have hf:=hfl i;unfold C5;dsimp only;rw [ip0 (by omega),Af (by omega),tna0,A34 (by omega) (by rw [r1];exact r2)];simp only [obs0];rw [Apr (by simp [Dw];omega)];simp only [obs0];rw [Ats hi];by_cases hx:Dw (nth (Ge a a false).1 i) (nth (Ge a a false).1 i)=nth (Ge a a false).1 i
   ·rw [dtr0 hx,ip0 rfl,ip0 rfl,Af (by simp only [List.length_singleton];omega),Af (by omega)];rfl
   ·rw [dfa0 hx,in0 (by simp),in0 (by simp),Af (by omega),List.append_nil];rfl) (by
   unfold C5;dsimp only;rw [in0 (by omega),List.take_length])
  have k2:=Bp (body:=C6 (Ge a a false)) (λi=>((i:Int),((Ge a a false).1.take i).filter λf=>decide (Dw f f=f))) (Ge a a false).1.length ((Ge a a false).1.filter λf=>decide (Dw f f=f)) (λi hi=>by
   obtain ⟨r1,r2⟩:=hrow i hi;have hf:=hfl i;unfold C6;dsimp only;rw [ip0 (by omega),Af (by omega),Af (by omega),tna0,Ayf (by omega) (by rw [r1];exact r2)];simp only [obs0];rw [Af (by omega),Ahq (by simp [Dw];omega)];simp only [obs0];rw [Ats hi];by_cases hx:Dw (nth (Ge a a false).1 i) (nth (Ge a a false).1 i)=nth (Ge a a false).1 i
   ·rw [dtr0 hx,ip0 rfl,ip0 rfl,Af (by omega),Af (by simp only [List.length_singleton];omega),Af (by omega)];rfl
   ·rw [dfa0 hx,in0 (by simp),in0 (by simp),Af (by omega),List.append_nil];rfl) (by
   unfold C6;dsimp only;rw [in0 (by omega),List.take_length])
  have k1':Aj (C5 (Ge a a false)) (0,Al (List Int))=_:=k1;have k2':Aj (C6 (Ge a a false)) (0,Al (List Int))=_:=k2;rw [k1',k2'];exact ⟨rfl,rfl⟩
 ·rw [in0 ht,in0 ht,in0 ht];exact ⟨rfl,rfl⟩
theorem A46:(A04 a).2=(Ge a a false).2/\(A04 a).1.length<=300 /\ ∀z∈(A04 a).1,z.length<=8:=by
 obtain ⟨r1,r2⟩:=Ajm (a:=a) (b:=a) false;unfold A04;by_cases ht:(Ge a a false).2=true
 ·rw [ip0 ht];refine ⟨ht.symm,?_,λz hz=>r2 z (List.mem_filter.1 hz).1⟩;have:=List.length_filter_le (λf=>decide (Dw f f=f)) (Ge a a false).1;dsimp only;omega
 ·rw [in0 ht];exact ⟨by simpa using ht,by simp,λz hz=>by cases hz⟩
end
end Go.Proofs.YtmkgjnphianalaaGreat.Ax
