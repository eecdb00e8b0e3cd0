/-
 Plain facts, joined.
-/
import Derived.Test.YtmkgjnphianalaaGreatAx4
import Derived.Test.YtmkgjnphianalaaGreatGALL
namespace Go.Proofs.YtmkgjnphianalaaGreat.Ax
open Go
theorem ip0 {c:Prop} {_h:Decidable c} (hc:c) {α:Type} {t e:α}:ite c t e=t:=if_pos hc
theorem in0 {c:Prop} {_h:Decidable c} (hc:¬c) {α:Type} {t e:α}:ite c t e=e:=if_neg hc
theorem obs0 {α β:Type} (a:α) (f:α->Option β):(some a).bind f=f a:=rfl
theorem tna0 (n:Nat):(n:Int).toNat=n:=rfl
theorem dtr0 {p:Prop} [Decidable p] (h:p):decide p=true:=decide_eq_true h
theorem dfa0 {p:Prop} [Decidable p] (h:¬p):decide p=false:=decide_eq_false h
abbrev BIG:Nat:=9223372036854775807
theorem Axw {α:Type} [Inhabited α] (xs:List α) (i:Nat):nth xs i=xs.getD i default:=rfl
theorem Ce {α:Type} [Inhabited α] {xs:List α} {i:Nat} (h:i<xs.length):nth xs i=xs[i]:=by simp [nth,List.getD_eq_getElem?_getD,h]
theorem Aj {α:Type} [Inhabited α] {xs:List α} {i:Nat} (h:i<xs.length):nth xs i∈xs:=by rw [Ce h];exact List.getElem_mem h
theorem Bk {α β:Type} [Inhabited α] [Inhabited β] (f:α->β) {xs:List α} {i:Nat} (h:i<xs.length):nth (xs.map f) i=f (nth xs i):=by rw [Ce h,Ce (by simpa using h)];simp
theorem F0 {i n:Nat} (h:i<n):nth (List.range n) i=i:=by rw [Ce (by simpa using h)];simp
theorem Afr {α:Type} [Inhabited α] {n i:Nat} (x:α) (h:i<n):nth (List.replicate n x) i=x:=by rw [Ce (by simpa using h)];simp
theorem Jd {α:Type} [Inhabited α] (xs:List α) (i j:Nat) (v:α) (h:j<xs.length):nth (xs.set i v) j=if i=j then v else nth xs j:=by rw [Ce (by simpa using h),Ce h,List.getElem_set]
theorem Hh {α:Type} [Inhabited α] {xs ys:List α} {i:Nat} (h:i<xs.length):nth (xs++ys) i=nth xs i:=by rw [Ce (by simp;omega),Ce h,List.getElem_append_left h]
theorem V4 {α:Type} [Inhabited α] {xs:List α} {y:α}:nth (xs++[y]) xs.length=y:=by rw [Ce (by simp)];simp
theorem Fi {α:Type} [Inhabited α] {xs ys:List α} (hl:xs.length=ys.length) (h : ∀i,i<xs.length->nth xs i=nth ys i):xs=ys:=by
 refine List.ext_getElem hl λi h1 h2=> ?_
 have:=h i h1
 rwa [Ce h1,Ce h2] at this
theorem Cw {α:Type} [Inhabited α] {xs:List α} {x:α}:x∈xs ↔ ∃i,i<xs.length/\nth xs i=x:=by
 constructor
 ·intro h;obtain ⟨i,h1,h2⟩:=List.mem_iff_getElem.1 h;exact ⟨i,h1,by rw [Ce h1,h2]⟩
 ·rintro ⟨i,h1,rfl⟩;exact Aj h1
theorem C9 {α:Type} [Inhabited α] {xs:List α} {i:Nat} (h:i<xs.length):xs.take (i+1)=xs.take i++[nth xs i]:=by rw [List.take_add_one,Ce h];simp [h]
theorem Avb {α:Type} [Inhabited α] {xs:List α} {i:Nat} (h:i<xs.length):xs.drop i=nth xs i::xs.drop (i+1):=by rw [List.drop_eq_getElem_cons h,Ce h]
theorem Api {α:Type} (xs:List α) (z v:α) {i n:Nat} (hi:i<n) (hl:xs.length=i):(xs++List.replicate (n-i) z).set i v=(xs++[v])++List.replicate (n-(i+1)) z:=by
 subst hl;rw [List.set_append_right _ _ (Nat.le_refl _),Nat.sub_self];have:n-xs.length=(n-(xs.length+1))+1:=by omega
 rw [this,List.replicate_succ,List.set_cons_zero];simp
section
variable {σ τ:Type} {body:σ->Option (σ ⊕ τ)}
theorem F6 {s s':σ} (h:body s=some (.inl s')):Ak body s=Ak body s':=by rw [Azo,h]
theorem Cv {s:σ} {t:τ} (h:body s=some (.inr t)):Ak body s=some t:=by rw [Azo,h]
theorem Bn (s:Nat->σ) (n:Nat) (t:τ) (h : ∀i,i<n->body (s i)=some (.inl (s (i+1)))) (he:body (s n)=some (.inr t)):Ak body (s 0)=some t:=by
 have key : ∀k,k<=n->Ak body (s 0)=Ak body (s k):=by
  intro k
  induction k with
  | zero=>intro _;rfl
  | succ k ih=>intro hk;rw [ih (by omega),F6 (h k (by omega))]
 rw [key n (Nat.le_refl _),Cv he]
theorem Avx (s:Nat->σ) (i0 n:Nat) (t:τ) (h0:i0<=n) (h : ∀i,i0<=i->i<n->body (s i)=some (.inl (s (i+1)))) (he:body (s n)=some (.inr t)):Ak body (s i0)=some t:=by have:=Bn (body:=body) (λk=>s (i0+k)) (n-i0) t (λi hi=>by simpa [Nat.add_assoc] using h (i0+i) (by omega) (by omega)) (by show body (s (i0+(n-i0)))=_;rw [show i0+(n-i0)=n by omega];exact he);simpa using this
theorem Ds (inv:σ->Prop) (μ:σ->Nat) (post:τ->Prop) (h : ∀s,inv s->(∃s',body s=some (.inl s')/\inv s'/\μ s'<μ s)\/(∃t,body s=some (.inr t)/\post t)) : ∀ {s:σ},inv s -> ∃t,Ak body s=some t/\post t:=by
 have key : ∀k s,μ s<=k->inv s -> ∃t,Ak body s=some t/\post t:=by
  intro k
  induction k with
  | zero=>
    intro s hk hs;rcases h s hs with ⟨s',h1,h2,h3⟩ | ⟨t,h1,h2⟩
    ·omega
    ·exact ⟨t,Cv h1,h2⟩
  | succ k ih=>
    intro s hk hs;rcases h s hs with ⟨s',h1,h2,h3⟩ | ⟨t,h1,h2⟩
    ·rw [F6 h1];exact ih s' (by omega) h2
    ·exact ⟨t,Cv h1,h2⟩
 intro s hs;exact key (μ s) s (Nat.le_refl _) hs
end
open Classical in
theorem Ap2 {σ α β:Type} {body:σ->Option (σ ⊕ (α ⊕ β))} (s:Nat->σ) (i0 n:Nat) (bad:Nat->Prop) (a:α) (b:β) (hi0:i0<=n)
  (h : ∀i,i0<=i->i<n->¬bad i->body (s i)=some (.inl (s (i+1)))) (hb : ∀i,i0<=i->i<n->bad i->body (s i)=some (.inr (.inl a))) (he:body (s n)=some (.inr (.inr b))) :
  Ak body (s i0)=some (if ∃i,i0<=i/\i<n/\bad i then .inl a else .inr b):=by
 by_cases hx : ∃i,i0<=i/\i<n/\bad i
 ·rw [ip0 hx];obtain ⟨i,h1,h2,h3,h4⟩ : ∃i,i0<=i/\i<n/\bad i /\ ∀j,i0<=j->j<i->¬bad j:=by
   have key : ∀k i,i<=k->i0<=i->i<n->bad i -> ∃i,i0<=i/\i<n/\bad i /\ ∀j,i0<=j->j<i->¬bad j:=by
    intro k
    induction k with
    | zero=>intro i hk h1 h2 h3;exact ⟨i,h1,h2,h3,λj _ hj=>by omega⟩
    | succ k ih=>
      intro i hk h1 h2 h3;by_cases hy : ∃j,i0<=j/\j<i/\bad j
      ·obtain ⟨j,k1,k2,k3⟩:=hy;exact ih j (by omega) k1 (by omega) k3
      ·exact ⟨i,h1,h2,h3,λj k1 k2 k3=>hy ⟨j,k1,k2,k3⟩⟩
   obtain ⟨i,h1,h2,h3⟩:=hx;exact key i i (Nat.le_refl _) h1 h2 h3
  exact Avx s i0 i (.inl a) h1 (λj k1 k2=>h j k1 (by omega) (h4 j k1 k2)) (hb i h1 h2 h3)
 ·rw [in0 hx];exact Avx s i0 n (.inr b) hi0 (λj k1 k2=>h j k1 k2 λhc=>hx ⟨j,k1,k2,hc⟩) he
open Classical in
theorem Jx {σ α β:Type} {body:σ->Option (σ ⊕ (α ⊕ β))} (s:Nat->σ) (n:Nat) (bad:Nat->Prop) (a:α) (b:β)
  (h : ∀i,i<n->¬bad i->body (s i)=some (.inl (s (i+1)))) (hb : ∀i,i<n->bad i->body (s i)=some (.inr (.inl a))) (he:body (s n)=some (.inr (.inr b))) (i0:Nat) (hi0:i0<=n) :
  Ak body (s i0)=some (if ∃i,i0<=i/\i<n/\bad i then .inl a else .inr b):=
 Ap2 s i0 n bad a b hi0 (λi _=>h i) (λi _=>hb i) he
open Classical in
theorem Ly {σ:Type} {body:σ->Option (σ ⊕ (Unit ⊕ Unit))} {s0:σ} {p:Prop} (h:Ak body s0=some (if p then .inl () else .inr ())) (x y:Bool) :
  ((Ak body s0).bind λt=>match t with | .inl _=>some x | .inr _=>some y)=some (if p then x else y):=by
 rw [h];by_cases hp:p<;>simp [hp]
open Classical
theorem At:LIM=4294967296:=rfl
theorem Oe {n:Nat} {p:Nat->Prop}:(¬ ∃i,0<=i/\i<n/\¬p i) ↔ ∀i,i<n->p i:=by
 constructor
 ·intro h i hi;exact Classical.byContradiction λhc=>h ⟨i,by omega,hi,hc⟩
 ·rintro h ⟨i,_,hi,hc⟩;exact hc (h i hi)
theorem Un {p q:Prop} [Decidable p] [Decidable q] (h:¬p↔q):(if p then false else true)=decide q:=by
 by_cases hp:p
 ·rw [ip0 hp,dfa0];exact λhq=>h.2 hq hp
 ·rw [in0 hp,dtr0 (h.1 hp)]
theorem Ad2 (x a b:Int):Ht x a b=some (decide (a<=x/\x<=b)):=by
 unfold Ht;split
 ·rename_i h;congr 1;rw [decide_eq_decide];constructor
  ·intro h2;exact ⟨h,h2⟩
  ·exact λh2=>h2.2
 ·rename_i h;rw [dfa0];exact λh2=>h h2.1
def Awy (xs:List Int) (lo hi:Int):Prop := ∀i,i<xs.length->(lo<=nth xs i/\nth xs i<=hi)/\(0<i->nth xs (i-1)<nth xs i)
theorem A3v (xs:List Int) (lo hi:Int) (h:xs.length<=LIM):Jv xs lo hi=some (decide (Awy xs lo hi)):=by
 unfold Jv;rw [At] at h;have:=Jx (body:=D9 xs lo hi) (λi=>(i:Int)) xs.length (λi=>¬((lo<=nth xs i/\nth xs i<=hi)/\(0<i->nth xs (i-1)<nth xs i))) () () (λi hi' hb=>by
  have hb:=Classical.not_not.1 hb;unfold D9;rw [ip0 (by omega),Ae (by omega),Ad2];simp only [tna0,obs0];rw [ip0 (by simpa using hb.1)];by_cases h0:0<i
  ·rw [ip0 (by omega),Ae (by omega),Ae (by omega),Ae (by omega)];rw [show ((i:Int)-1).toNat=i-1 by omega,in0 (by have:=hb.2 h0;omega),Ae (by omega)];rfl
  ·rw [in0 (by omega),Ae (by omega)];rfl) (λi hi' hb=>by
  unfold D9;rw [ip0 (by omega),Ae (by omega),Ad2];simp only [tna0,obs0];by_cases h1:lo<=nth xs i/\nth xs i<=hi
  ·have h2:0<i/\¬nth xs (i-1)<nth xs i:=by
    by_cases h0:0<i
    ·exact ⟨h0,λhc=>hb ⟨h1,λ_=>hc⟩⟩
    ·exact absurd ⟨h1,λhc=>absurd hc h0⟩ hb
   rw [ip0 (by simpa using h1),ip0 (by omega),Ae (by omega),Ae (by omega),Ae (by omega)];rw [show ((i:Int)-1).toNat=i-1 by omega,ip0 (by omega)]
  ·rw [in0 (by simpa using h1)]) (by unfold D9;rw [in0 (by omega)]) 0 (by omega)
 exact (Ly this false true).trans (congrArg some (Un Oe))
def Mk (xs:List Int):Prop := ∀i,0<i->i<xs.length->nth xs (i-1)<nth xs i
def Bc (xs:List Int) (n:Int):Prop := ∀x∈xs,0<=x/\x<n
theorem Bb3 (xs:List Int) (h:xs.length<=LIM):Of xs=some (decide (Mk xs)):=by
 unfold Of;rw [At] at h;by_cases h0:xs.length=0
 ·have:Ak (Dz xs) 1=some (.inr ()):=Cv (by unfold Dz;rw [in0 (by omega)]);rw [this,dtr0]
  ·rfl
  ·intro i _ hi;omega
 have:=Ap2 (body:=Dz xs) (λi=>(i:Int)) 1 xs.length (λi=>¬nth xs (i-1)<nth xs i) () () (by omega) (λi hi0 hi hb=>by
  unfold Dz;rw [ip0 (by omega),Ae (by omega),Ae (by omega),Ae (by omega)];simp only [tna0];rw [show ((i:Int)-1).toNat=i-1 by omega,in0 (by have:=Classical.not_not.1 hb;omega),Ae (by omega)];rfl) (λi hi0 hi hb=>by
  unfold Dz;rw [ip0 (by omega),Ae (by omega),Ae (by omega),Ae (by omega)];simp only [tna0];rw [show ((i:Int)-1).toNat=i-1 by omega,ip0 (by omega)]) (by unfold Dz;rw [in0 (by omega)])
 refine (Ly this false true).trans (congrArg some (Un ?_));constructor
 ·intro h2 i h3 h4;exact Classical.byContradiction λhc=>h2 ⟨i,h3,h4,hc⟩
 ·rintro h2 ⟨i,h3,h4,hc⟩;exact hc (h2 i h3 h4)
theorem Ayz (xs:List Int) (n:Int) (h:xs.length<=LIM):J0 xs n=some (decide (Bc xs n)):=by
 unfold J0;rw [At] at h;have:=Jx (body:=Fe xs n) (λi=>(i:Int)) xs.length (λi=>¬(0<=nth xs i/\nth xs i<n)) () () (λi hi hb=>by
  unfold Fe;have hb:=Classical.not_not.1 hb;rw [ip0 (by omega),Ae (by omega)];simp only [tna0];rw [in0 (by omega),in0 (by omega),Ae (by omega)];rfl) (λi hi hb=>by
  unfold Fe;rw [ip0 (by omega),Ae (by omega)];simp only [tna0];by_cases h0:nth xs i<0
  ·rw [ip0 h0]
  ·rw [in0 h0,ip0 (by omega)]) (by unfold Fe;rw [in0 (by omega)]) 0 (by omega)
 refine (Ly this false true).trans (congrArg some (Un ?_));rw [Oe];constructor
 ·intro h x hx;obtain ⟨i,hi,rfl⟩:=Cw.1 hx;exact h i hi
 ·intro h i hi;exact h _ (Aj hi)
noncomputable def below (xss:List (List Int)) (y x:Nat):Bool:=decide ((y:Int)∈nth xss x)
def good (xss:List (List Int)):Prop:=xss.length<=10/\(∀x,x<xss.length->Awy (nth xss x) 0 (xss.length-1)/\(x:Int)∈nth xss x) /\
 ∀x,x<xss.length -> ∀i,i<(nth xss x).length->¬(nth (nth xss x) i≠x/\(x:Int)∈nth xss (nth (nth xss x) i).toNat) /\
   ∀z∈nth xss (nth (nth xss x) i).toNat,z∈nth xss x
theorem Apm (xs:List Int) (n:Nat):Awy xs 0 (n-1)↔Mk xs/\Bc xs n:=by
 constructor
 ·intro h;refine ⟨λi h1 h2=>(h i h2).2 h1,λx hx=> ?_⟩;obtain ⟨i,h1,rfl⟩:=Cw.1 hx;have:=(h i h1).1;omega
 ·rintro ⟨h1,h2⟩ i hi;have:=h2 _ (Aj hi);exact ⟨by omega,λh=>h1 i h hi⟩
def Ar (n:Nat) (p:Nat->Bool):List Int:=((List.range n).filter p).map λi:Nat=>(i:Int)
theorem R4 {n:Nat} {p q:Nat->Bool} (h : ∀i,i<n->p i=q i):Ar n p=Ar n q:=by unfold Ar;congr 1;exact List.filter_congr λi hi=>h i (List.mem_range.1 hi)
theorem De (n:Nat) (p:Nat->Bool):Ar (n+1) p=if p n then Ar n p++[(n:Int)] else Ar n p:=by unfold Ar;rw [List.range_succ,List.filter_append,List.map_append];by_cases h:p n<;>simp [h]
theorem Cz (n:Nat) (p:Nat->Bool):(Ar n p).length<=n:=by unfold Ar;rw [List.length_map];exact Nat.le_trans (List.length_filter_le _ _) (by simp)
theorem Da {n:Nat} {p:Nat->Bool} {x:Int}:x∈Ar n p ↔ ∃i:Nat,i<n/\p i=true/\x=i:=by
 unfold Ar;rw [List.mem_map];constructor
 ·rintro ⟨i,hi,rfl⟩;have:=List.mem_filter.1 hi;exact ⟨i,List.mem_range.1 this.1,this.2,rfl⟩
 ·rintro ⟨i,h1,h2,rfl⟩;exact ⟨i,List.mem_filter.2 ⟨List.mem_range.2 h1,h2⟩,rfl⟩
theorem Avw {n:Nat} {p:Nat->Bool}:Ar n p=[] ↔ ∀i,i<n->p i=false:=by
 constructor
 ·intro h i hi;cases hp:p i with
  | false=>rfl
  | true=> have:(i:Int)∈Ar n p:=Da.2 ⟨i,hi,hp,rfl⟩;rw [h] at this;cases this
 ·intro h;refine List.eq_nil_iff_forall_not_mem.2 λx hx=> ?_
  obtain ⟨i,h1,h2,_⟩:=Da.1 hx;rw [h i h1] at h2;cases h2
theorem Abe {body:(Int×List Int)->Option ((Int×List Int) ⊕ List Int)} (n:Nat) (p:Nat->Bool)
  (h : ∀(i:Nat) acc,i<n->acc.length<=i->body ((i:Int),acc)=some (.inl (((i+1:Nat):Int),if p i then acc++[(i:Int)] else acc)))
  (he : ∀acc,body ((n:Int),acc)=some (.inr acc)):Ak body (0,Aw Int)=some (Ar n p):=by
 have:=Bn (body:=body) (λi=>((i:Int),Ar i p)) n (Ar n p) (λi hi=>by rw [h i _ hi (Cz i p),De]) (he _);have e:Ar 0 p=Aw Int:=rfl;simp only [e] at this;exact this
section
theorem Ir {xs:List Int} (h:Mk xs) : ∀ {j i:Nat},i<j->j<xs.length->nth xs i<nth xs j:=by
 intro j
 induction j with
 | zero=>intro i hi;omega
 | succ j ih=>
   intro i hi hj;have:=h (j+1) (by omega) hj;rw [Nat.add_sub_cancel] at this;by_cases hij:i=j
   ·subst hij;exact this
   ·exact Int.lt_trans (ih (by omega) (by omega)) this
theorem Alx : ∀ {xs ys:List Int},Mk xs->Mk ys->(∀x,x∈xs↔x∈ys)->xs=ys:=by
 have tl : ∀ {x:Int} {xs:List Int},Mk (x::xs)->Mk xs:=by
  intro x xs h i h1 h2;have:=h (i+1) (by omega) (by simpa using h2);rw [Nat.add_sub_cancel] at this;have e1:nth (x::xs) (i+1)=nth xs i:=rfl;have e2:nth (x::xs) i=nth xs (i-1):=by
   cases i with
   | zero=>omega
   | succ i=>rfl
  rw [e1,e2] at this;exact this
 have hd : ∀ {x:Int} {xs:List Int},Mk (x::xs) -> ∀y∈xs,x<y:=by intro x xs h y hy;obtain ⟨i,hi,rfl⟩:=Cw.1 hy;exact Ir h (i:=0) (j:=i+1) (by omega) (by simpa using hi)
 intro xs
 induction xs with
 | nil=>
   intro ys _ _ h;cases ys with
   | nil=>rfl
   | cons y r=>have:=(h y).2 (by simp);cases this
 | cons x r ih=>
   intro ys h1 h2 h;cases ys with
   | nil=>have:=(h x).1 (by simp);cases this
   | cons y s=>
     have e:x=y:=by
      have a:=(h x).1 (by simp);have b:=(h y).2 (by simp);rcases List.mem_cons.1 a with a | a
      ·exact a
      ·rcases List.mem_cons.1 b with b | b
       ·exact b.symm
       ·have:=hd h2 _ a;have:=hd h1 _ b;omega
     subst e;congr 1;refine ih (tl h1) (tl h2) λz=> ?_
     constructor
     ·intro hz;rcases List.mem_cons.1 ((h z).1 (by simp [hz])) with e | e
      ·subst e;have:=hd h1 _ hz;omega
      ·exact e
     ·intro hz;rcases List.mem_cons.1 ((h z).2 (by simp [hz])) with e | e
      ·subst e;have:=hd h2 _ hz;omega
      ·exact e
theorem Ey (n:Nat) (q:Nat->Bool):Mk (Ar n q):=by
 induction n with
 | zero=>intro i h1 h2;simp [Ar] at h2
 | succ n ih=>
   rw [De];split
   ·intro i h1 h2;by_cases hi:i<(Ar n q).length
    ·rw [Hh hi,Hh (by omega)];exact ih i h1 hi
    ·have hi2:i=(Ar n q).length:=by simp at h2;omega
     subst hi2;rw [V4,Hh (by omega)];obtain ⟨k,hk,_,e⟩:=Da.1 (Aj (xs:=Ar n q) (i:=(Ar n q).length-1) (by omega));rw [e];omega
   ·exact ih
end
def Mg (n:Nat) (f:Nat->Bool):List Bool:=(List.range n).map f
theorem Jw (n:Nat) (f:Nat->Bool):(Mg n f).length=n:=by simp [Mg]
theorem Ko {n:Nat} {f:Nat->Bool} {i:Nat} (h:i<n):nth (Mg n f) i=f i:=by unfold Mg;rw [Bk _ (by simpa using h),F0 h]
theorem Ar9 {n:Nat} {f:Nat->Bool} {i:Nat} {v:Bool} (_h:i<n):(Mg n f).set i v=Mg n λj=>if j=i then v else f j:=by
 refine Fi (by simp [Mg]) λj hj=> ?_
 have hj':j<n:=by simpa [Mg] using hj
 rw [Jd _ _ _ _ (by rw [Jw];exact hj'),Ko hj',Ko hj'];by_cases e:i=j
 ·rw [ip0 e,ip0 e.symm]
 ·rw [in0 e,in0 (Ne.symm e)]
theorem Nx {n:Nat} {f g:Nat->Bool} (h : ∀i,i<n->f i=g i):Mg n f=Mg n g:=List.map_congr_left λi hi=>h i (List.mem_range.1 hi)
theorem Afx (n:Nat):List.replicate n false=Mg n λ_=>false:=by
 refine Fi (by simp [Mg]) λj hj=> ?_
 have hj':j<n:=by simpa using hj
 rw [Ko hj',Afr _ hj']
def LeO {α:Type} (a b:Option α):Prop := ∀v,a=some v->b=some v
theorem LeO.refl {α:Type} (a:Option α):LeO a a:=λ_ h=>h
theorem LeO.bind {α β:Type} {a b:Option α} {k l:α->Option β} (h:LeO a b) (hk : ∀x,LeO (k x) (l x)):LeO (a.bind k) (b.bind l):=by intro v e;obtain ⟨x,h1,h2⟩:=Option.bind_eq_some_iff.1 e;rw [h x h1];exact hk x v h2
theorem LeO.ite {α:Type} {p:Prop} [Decidable p] {a b c d:Option α} (h1:LeO a c) (h2:LeO b d):LeO (if p then a else b) (if p then c else d):=by
 by_cases h:p
 ·rw [ip0 h,ip0 h];exact h1
 ·rw [in0 h,in0 h];exact h2
theorem LeO.ask {α:Type} {p:Prop} {a b:Option α} (h:LeO a b):LeO (ask p a) (ask p b):=λv e=>Za.2 ⟨(Za.1 e).1,h v (Za.1 e).2⟩
theorem LeO.loop {σ τ:Type} {f g:σ->Option (σ ⊕ τ)} (h : ∀s,LeO (f s) (g s)) (s:σ):LeO (Ak f s) (Ak g s):=by
 intro v e;obtain ⟨n,hn⟩:=Q4.1 e;refine Q4.2 ⟨n,?_⟩;clear e
 induction n generalizing s with
 | zero=>cases hn
 | succ n ih=>
   simp only [Am3] at hn ⊢;cases hf:f s with
   | none=>rw [hf] at hn;cases hn
   | some o=>
     rw [hf] at hn;rw [h s o hf];cases o with
     | inl s'=>exact ih s' hn
     | inr t=>exact hn
def mx:Nat->(Nat->Nat)->Nat
 | 0,_=>0
 | n+1,f=>max (mx n f) (f n)
theorem Bfh {n:Nat} {f:Nat->Nat} {i:Nat} (h:i<n):f i<=mx n f:=by
 induction n with
 | zero=>omega
 | succ n ih=>
   simp only [mx];by_cases e:i=n
   ·subst e;omega
   ·have:=ih (by omega);omega
theorem Be4 {n m:Nat} {f:Nat->Nat} (h : ∀i,i<n->f i<=m):mx n f<=m:=by
 induction n with
 | zero=>simp [mx]
 | succ n ih=>
   simp only [mx];have:=ih λi hi=>h i (by omega)
   have:=h n (by omega);omega
theorem A9g {n:Nat} {f g:Nat->Nat} (h : ∀i,i<n->f i=g i):mx n f=mx n g:=by
 induction n with
 | zero=>rfl
 | succ n ih=>simp only [mx];rw [ih λi hi=>h i (by omega),h n (by omega)]
def sm:Nat->(Nat->Nat)->Nat
 | 0,_=>0
 | n+1,f=>sm n f+f n
theorem Bcx {n:Nat} {f g:Nat->Nat} (h : ∀i,i<n->f i<=g i):sm n f<=sm n g:=by
 induction n with
 | zero=>exact Nat.le_refl _
 | succ n ih=>simp only [sm];have:=ih λi hi=>h i (by omega);have:=h n (by omega);omega
theorem Bcy {n:Nat} {f g:Nat->Nat} (h : ∀i,i<n->f i<=g i) {j:Nat} (hj:j<n) (hl:f j<g j):sm n f<sm n g:=by
 induction n with
 | zero=>omega
 | succ n ih=>
   simp only [sm];by_cases e:j=n
   ·subst e;have:=Bcx λi hi=>h i (Nat.lt_succ_of_lt hi);omega
   ·have:=ih (λi hi=>h i (by omega)) (by omega);have:=h n (by omega);omega
theorem A9s (n c:Nat):sm n (λ_=>c)=n*c:=by
 induction n with
 | zero=>simp [sm]
 | succ n ih=>simp only [sm,ih,Nat.succ_mul]
def many (n:Nat) (p:Nat->Bool):Nat:=sm n λi=>if p i then 1 else 0
theorem Bco (n:Nat) (p:Nat->Bool):many n p<=n:=by
 have:=Bcx (n:=n) (f:=λi=>if p i then 1 else 0) (g:=λ_=>1) λi _=>by (try dsimp only);split<;>omega
 rw [A9s] at this;unfold many;omega
structure Strict (n:Nat) (r:Nat->Nat->Bool):Prop where
 irr : ∀x,x<n->r x x=false
 tr : ∀x y z,x<n->y<n->z<n->r x y=true->r y z=true->r x z=true
def htn (n:Nat) (r:Nat->Nat->Bool):Nat->Nat->Nat
 | 0,_=>0
 | k+1,x=>mx n λy=>if r y x then htn n r k y+1 else 0
def ht (n:Nat) (r:Nat->Nat->Bool) (x:Nat):Nat:=htn n r n x
section
variable {n:Nat} {r:Nat->Nat->Bool}
theorem A4f (h:Strict n r) {x y:Nat} (hx:x<n) (hy:y<n) (hr:r y x=true):many n (λz=>r z y)<many n (λz=>r z x):=by
 refine Bcy (λi hi=> ?_) hy ?_
 ·(try dsimp only)
  by_cases e:r i y=true
  ·rw [ip0 e,ip0 (h.tr i y x hi hy hx e hr)];exact Nat.le_refl _
  ·rw [in0 e];exact Nat.zero_le _
 ·(try dsimp only)
  rw [ip0 hr,in0 (by rw [h.irr y hy];simp)];exact Nat.zero_lt_one
theorem A33 (h:Strict n r) (k:Nat) : ∀x,x<n->many n (λz=>r z x)<=k->htn n r k x=htn n r (k+1) x:=by
 induction k with
 | zero=>
   intro x hx hc;have:htn n r 1 x<=0:=Be4 λy hy=>by
    (try dsimp only)
    rw [in0]
    ·exact Nat.le_refl _
    ·intro hr;have:=A4f h hx hy hr;omega
   have e:htn n r 0 x=0:=rfl;show htn n r 0 x=htn n r 1 x;omega
 | succ k ih=>
   intro x hx hc;show mx n _=mx n _;refine A9g λy hy=> ?_
   (try dsimp only)
   by_cases hr:r y x=true
   ·have:=A4f h hx hy hr;rw [ip0 hr,ip0 hr,ih y hy (by omega)]
   ·rw [in0 hr,in0 hr]
theorem Bfd (h:Strict n r) {x:Nat} (hx:x<n):ht n r x=mx n λy=>if r y x then ht n r y+1 else 0:=A33 h n x hx (Bco _ _)
theorem Bev (h:Strict n r) {x y:Nat} (hx:x<n) (hy:y<n) (hr:r y x=true):ht n r y<ht n r x:=by
 rw [Bfd h hx];have:=Bfh (n:=n) (f:=λy=>if r y x then ht n r y+1 else 0) hy
 (try dsimp only at this)
 rw [ip0 hr] at this;omega
end
structure LInv (n:Nat) (r:Nat->Nat->Bool) (l:List Int):Prop where
 len:l.length=n
 low : ∀x,x<n->0<=nth l x
 high : ∀x,x<n->nth l x<=ht n r x
def tot (n:Nat) (l:List Int):Nat:=sm n λi=>(nth l i).toNat
theorem LInv.set {n r l} (h:LInv n r l) (hs:Strict n r) {x y:Nat} (hx:x<n) (hy:y<n) (hr:r y x=true) (hl:nth l x<=nth l y):LInv n r (l.set x (nth l y+1))/\tot n l<tot n (l.set x (nth l y+1)):=by
 have e : ∀i,i<n->nth (l.set x (nth l y+1)) i=if x=i then nth l y+1 else nth l i:=λi hi=>Jd _ _ _ _ (by rw [h.len];exact hi)
 refine ⟨⟨by rw [List.length_set];exact h.len,λi hi=> ?_,λi hi=> ?_⟩,?_⟩
 ·rw [e i hi];split
  ·have:=h.low y hy;omega
  ·exact h.low i hi
 ·rw [e i hi];split
  ·rename_i e;subst e;have:=h.high y hy;have:=Bev hs hx hy hr;omega
  ·exact h.high i hi
 ·have hlow:=h.low y hy;refine Bcy (λi hi=> ?_) hx ?_
  ·rw [e i hi];split
   ·rename_i e;subst e;omega
   ·exact Nat.le_refl _
  ·rw [e x hx,ip0 rfl];have:=h.low x hx;omega
theorem Akn {σ τ:Type} {body:σ->Option (σ ⊕ τ)} (s:Nat->σ) (n:Nat) (hit:Nat->Prop) (res:Nat->τ) (no:τ)
  (h : ∀i,i<n->¬hit i->body (s i)=some (.inl (s (i+1)))) (h2 : ∀i,i<n->hit i->body (s i)=some (.inr (res i))) (he:body (s n)=some (.inr no)) :
  (∃i,i<n/\hit i/\(∀j,j<i->¬hit j)/\Ak body (s 0)=some (res i))\/((∀i,i<n->¬hit i)/\Ak body (s 0)=some no):=by
 by_cases hx : ∃i,i<n/\hit i
 ·have key : ∀m i,i<=m->i<n->hit i -> ∃i,i<n/\hit i /\ ∀j,j<i->¬hit j:=by
   intro m
   induction m with
   | zero=>intro i h1 h2 h3;exact ⟨i,h2,h3,λj hj=>by omega⟩
   | succ m ih=>
     intro i h1 h2 h3;by_cases hy : ∃j,j<i/\hit j
     ·obtain ⟨j,h4,h5⟩:=hy;exact ih j (by omega) (by omega) h5
     ·exact ⟨i,h2,h3,λj hj hh=>hy ⟨j,hj,hh⟩⟩
  obtain ⟨i0,h1,h3⟩:=hx;obtain ⟨i,h4,h5,h6⟩:=key i0 i0 (Nat.le_refl _) h1 h3;exact .inl ⟨i,h4,h5,h6,Bn s i (res i) (λj hj=>h j (by omega) (h6 j hj)) (h2 i h4 h5)⟩
 ·have hn : ∀i,i<n->¬hit i:=λi hi hh=>hx ⟨i,hi,hh⟩
  exact .inr ⟨hn,Bn s n no (λj hj=>h j hj (hn j hj)) he⟩
structure Ord (n:Nat) (f:Nat->Nat->Bool):Prop where
 refl : ∀x,x<n->f x x=true
 anti : ∀x y,x<n->y<n->f x y=true->f y x=true->x=y
 trans : ∀x y z,x<n->y<n->z<n->f x y=true->f y z=true->f x z=true
noncomputable def cov (n:Nat) (f:Nat->Nat->Bool) (x y:Nat):Bool:=decide ((x≠y/\f x y=true) /\ ∀z,z<n->¬((x≠z/\f x z=true)/\(z≠y/\f z y=true)))
section
theorem A20 {body:(Int×Int)->Option ((Int×Int) ⊕ Int)} (n:Nat) (q:Nat->Bool)
  (h : ∀(i c:Nat),i<n->c<=i->body ((i:Int),(c:Int))=some (.inl (((i+1:Nat):Int),if q i then ((c+1:Nat):Int) else (c:Int))))
  (he : ∀c:Nat,body ((n:Int),(c:Int))=some (.inr (c:Int))):Ak body (0,0)=some ((Ar n q).length:Int):=by
 have key:Ak body (((0:Nat):Int),((Ar 0 q).length:Int))=some ((Ar n q).length:Int):=
  Bn (body:=body) (λi=>((i:Int),((Ar i q).length:Int))) n _ (λi hi=>by
   rw [h i _ hi (Cz i q),De];by_cases hq:q i=true
   ·rw [ip0 hq,ip0 hq];simp
   ·rw [in0 hq,in0 hq]) (he _)
 exact key
noncomputable def irr (n:Nat) (f:Nat->Nat->Bool):List Int:=Ar n λy=>decide ((Ar n λx=>cov n f x y).length=1)
end
section
theorem A1q (a b:Int):J4 a b=some (if a>b then a else b):=by unfold J4;split<;>rfl
end
end Go.Proofs.YtmkgjnphianalaaGreat.Ax
